/- The table of functions: all that it says is the program's. -/
import Derived.Test.YtehandllpmlcoaaGreatF0
import Derived.Test.YtehandllpmlcoaaGreatF1
import Derived.Test.YtehandllpmlcoaaGreatF2
import Derived.Test.YtehandllpmlcoaaGreatBase3
set_option linter.unusedVariables false
set_option maxRecDepth 100000
namespace Go.Proofs.YtehandllpmlcoaaGreat
open Go Go.Abs
def tbl : List (Nat × Abs.Fn) := [(i_top_TopSteam, f_top_TopSteam), (i_top_run, f_top_run), (i_top_still, f_top_still), (i_law05_Bed, f_law05_Bed), (i_law02_Models, f_law02_Models), (i_rock_Ahead, f_rock_Ahead), (i_law05_Plan, f_law05_Plan), (i_rock_Play, f_rock_Play), (i_steam_Bounds, f_steam_Bounds), (i_steam_Flash, f_steam_Flash), (i_law02_Field, f_law02_Field), (i_law02_Model, f_law02_Model), (i_ref05_Right, f_ref05_Right), (i_ref05_ModelsFault, f_ref05_ModelsFault), (i_ref05_PlanFault, f_ref05_PlanFault), (i_law01_Three, f_law01_Three), (i_law01_Table, f_law01_Table), (i_rock_ready, f_rock_ready), (i_rock_caught, f_rock_caught), (i_rock_runs, f_rock_runs), (i_rock_span_rock_Yield, f_rock_span_rock_Yield), (i_rock_Yield_mass, f_rock_Yield_mass), (i_rock_Ahead_1, f_rock_Ahead_1), (i_rock_Yield_stain, f_rock_Yield_stain), (i_rock_Bed_size, f_rock_Bed_size), (i_rock_bedded_pressure, f_rock_bedded_pressure), (i_rock_span_int, f_rock_span_int), (i_rock_Ahead_2, f_rock_Ahead_2), (i_rock_bed, f_rock_bed), (i_rock_Bed_plan, f_rock_Bed_plan), (i_rock_bedded_run, f_rock_bedded_run), (i_steam_Table_valid, f_steam_Table_valid), (i_steam_Table_has, f_steam_Table_has), (i_steam_within, f_steam_within), (i_steam_Range_ends, f_steam_Range_ends), (i_steam_Table_at, f_steam_Table_at), (i_steam_flash_of, f_steam_flash_of), (i_steam_Stream_valid, f_steam_Stream_valid), (i_ref01_In, f_ref01_In), (i_ref02_Size, f_ref02_Size), (i_slices_IndexFunc_int, f_slices_IndexFunc_int), (i_rock_within, f_rock_within), (i_ref02_Right, f_ref02_Right), (i_ref01_Right, f_ref01_Right), (i_ref02_ModelsFault, f_ref02_ModelsFault), (i_ref05_Fits, f_ref05_Fits), (i_ref05_RatesFault, f_ref05_RatesFault), (i_rock_Bed_valid, f_rock_Bed_valid), (i_field_CheckModels, f_field_CheckModels), (i_rock_all_field_Model, f_rock_all_field_Model), (i_rock_ready_1, f_rock_ready_1), (i_rock_bedded_fits, f_rock_bedded_fits), (i_rock_bedded_weight, f_rock_bedded_weight), (i_rock_down, f_rock_down), (i_rock_bedded_hold, f_rock_bedded_hold), (i_rock_Bed_rates, f_rock_Bed_rates), (i_rock_bedded_first, f_rock_bedded_first), (i_rock_bedded_tick, f_rock_bedded_tick), (i_steam_all_steam_Row, f_steam_all_steam_Row), (i_steam_Row_alone, f_steam_Row_alone), (i_steam_flash_steam, f_steam_flash_steam), (i_ref02_Name, f_ref02_Name), (i_field_first, f_field_first), (i_field_Field_shape, f_field_Field_shape), (i_field_Field_models, f_field_Field_models), (i_field_Field_valid, f_field_Field_valid), (i_field_within, f_field_within), (i_field_Field_blocks, f_field_Field_blocks), (i_ref02_In, f_ref02_In), (i_ref02_ModelFault, f_ref02_ModelFault), (i_ref05_Value, f_ref05_Value), (i_field_CheckField, f_field_CheckField), (i_steam_CheckTable, f_steam_CheckTable), (i_rock_all_rock_Bore, f_rock_all_rock_Bore), (i_rock_Bed_valid_1, f_rock_Bed_valid_1), (i_field_CheckModels_1, f_field_CheckModels_1), (i_slices_ContainsFunc_field_Model, f_slices_ContainsFunc_field_Model), (i_rock_all_field_Model_1, f_rock_all_field_Model_1), (i_rock_all_int, f_rock_all_int), (i_rock_bedded_kind, f_rock_bedded_kind), (i_rock_bedded_fits_1, f_rock_bedded_fits_1), (i_rock_Bed_rates_1, f_rock_Bed_rates_1), (i_rock_bedded_warm, f_rock_bedded_warm), (i_slices_Clone_rock_State_rock_Block, f_slices_Clone_rock_State_rock_Block), (i_rock_bedded_flows, f_rock_bedded_flows), (i_rock_Block_move, f_rock_Block_move), (i_rock_Bore_given, f_rock_Bore_given), (i_rock_Block_out, f_rock_Block_out), (i_rock_bedded_fed, f_rock_bedded_fed), (i_rock_bedded_state, f_rock_bedded_state), (i_slices_ContainsFunc_steam_Row, f_slices_ContainsFunc_steam_Row), (i_steam_all_steam_Row_1, f_steam_all_steam_Row_1), (i_field_each_field_Model, f_field_each_field_Model), (i_field_Field_models_1, f_field_Field_models_1), (i_field_Field_model, f_field_Field_model), (i_slices_ContainsFunc_rock_Bore, f_slices_ContainsFunc_rock_Bore), (i_rock_all_rock_Bore_1, f_rock_all_rock_Bore_1), (i_slices_IndexFunc_field_Model, f_slices_IndexFunc_field_Model), (i_slices_ContainsFunc_int, f_slices_ContainsFunc_int), (i_rock_all_int_1, f_rock_all_int_1), (i_rock_bedded_pressures, f_rock_bedded_pressures), (i_rock_Bed_links, f_rock_Bed_links), (i_rock_bedded_open, f_rock_bedded_open), (i_rock_bedded_feed, f_rock_bedded_feed), (i_rock_all_rock_Block, f_rock_all_rock_Block), (i_rock_Block_valid, f_rock_Block_valid), (i_slices_IndexFunc_steam_Row, f_slices_IndexFunc_steam_Row), (i_field_named, f_field_named), (i_field_all_int, f_field_all_int), (i_field_Field_model_1, f_field_Field_model_1), (i_slices_IndexFunc_rock_Bore, f_slices_IndexFunc_rock_Bore), (i_rock_Bed_links_1, f_rock_Bed_links_1), (i_slices_ContainsFunc_rock_Block, f_slices_ContainsFunc_rock_Block), (i_rock_all_rock_Block_1, f_rock_all_rock_Block_1), (i_field_all_int_1, f_field_all_int_1), (i_slices_IndexFunc_rock_Block, f_slices_IndexFunc_rock_Block)]
def T : Tbl := fun f => (tbl.find? fun p => p.1 == f).map (·.2)
theorem T_top_TopSteam : T i_top_TopSteam = some f_top_TopSteam := rfl
theorem T_top_run : T i_top_run = some f_top_run := rfl
theorem T_top_still : T i_top_still = some f_top_still := rfl
theorem T_law05_Bed : T i_law05_Bed = some f_law05_Bed := rfl
theorem T_law02_Models : T i_law02_Models = some f_law02_Models := rfl
theorem T_rock_Ahead : T i_rock_Ahead = some f_rock_Ahead := rfl
theorem T_law05_Plan : T i_law05_Plan = some f_law05_Plan := rfl
theorem T_rock_Play : T i_rock_Play = some f_rock_Play := rfl
theorem T_steam_Bounds : T i_steam_Bounds = some f_steam_Bounds := rfl
theorem T_steam_Flash : T i_steam_Flash = some f_steam_Flash := rfl
theorem T_law02_Field : T i_law02_Field = some f_law02_Field := rfl
theorem T_law02_Model : T i_law02_Model = some f_law02_Model := rfl
theorem T_ref05_Right : T i_ref05_Right = some f_ref05_Right := rfl
theorem T_ref05_ModelsFault : T i_ref05_ModelsFault = some f_ref05_ModelsFault := rfl
theorem T_ref05_PlanFault : T i_ref05_PlanFault = some f_ref05_PlanFault := rfl
theorem T_law01_Three : T i_law01_Three = some f_law01_Three := rfl
theorem T_law01_Table : T i_law01_Table = some f_law01_Table := rfl
theorem T_rock_ready : T i_rock_ready = some f_rock_ready := rfl
theorem T_rock_caught : T i_rock_caught = some f_rock_caught := rfl
theorem T_rock_runs : T i_rock_runs = some f_rock_runs := rfl
theorem T_rock_span_rock_Yield : T i_rock_span_rock_Yield = some f_rock_span_rock_Yield := rfl
theorem T_rock_Yield_mass : T i_rock_Yield_mass = some f_rock_Yield_mass := rfl
theorem T_rock_Ahead_1 : T i_rock_Ahead_1 = some f_rock_Ahead_1 := rfl
theorem T_rock_Yield_stain : T i_rock_Yield_stain = some f_rock_Yield_stain := rfl
theorem T_rock_Bed_size : T i_rock_Bed_size = some f_rock_Bed_size := rfl
theorem T_rock_bedded_pressure : T i_rock_bedded_pressure = some f_rock_bedded_pressure := rfl
theorem T_rock_span_int : T i_rock_span_int = some f_rock_span_int := rfl
theorem T_rock_Ahead_2 : T i_rock_Ahead_2 = some f_rock_Ahead_2 := rfl
theorem T_rock_bed : T i_rock_bed = some f_rock_bed := rfl
theorem T_rock_Bed_plan : T i_rock_Bed_plan = some f_rock_Bed_plan := rfl
theorem T_rock_bedded_run : T i_rock_bedded_run = some f_rock_bedded_run := rfl
theorem T_steam_Table_valid : T i_steam_Table_valid = some f_steam_Table_valid := rfl
theorem T_steam_Table_has : T i_steam_Table_has = some f_steam_Table_has := rfl
theorem T_steam_within : T i_steam_within = some f_steam_within := rfl
theorem T_steam_Range_ends : T i_steam_Range_ends = some f_steam_Range_ends := rfl
theorem T_steam_Table_at : T i_steam_Table_at = some f_steam_Table_at := rfl
theorem T_steam_flash_of : T i_steam_flash_of = some f_steam_flash_of := rfl
theorem T_steam_Stream_valid : T i_steam_Stream_valid = some f_steam_Stream_valid := rfl
theorem T_ref01_In : T i_ref01_In = some f_ref01_In := rfl
theorem T_ref02_Size : T i_ref02_Size = some f_ref02_Size := rfl
theorem T_slices_IndexFunc_int : T i_slices_IndexFunc_int = some f_slices_IndexFunc_int := rfl
theorem T_rock_within : T i_rock_within = some f_rock_within := rfl
theorem T_ref02_Right : T i_ref02_Right = some f_ref02_Right := rfl
theorem T_ref01_Right : T i_ref01_Right = some f_ref01_Right := rfl
theorem T_ref02_ModelsFault : T i_ref02_ModelsFault = some f_ref02_ModelsFault := rfl
theorem T_ref05_Fits : T i_ref05_Fits = some f_ref05_Fits := rfl
theorem T_ref05_RatesFault : T i_ref05_RatesFault = some f_ref05_RatesFault := rfl
theorem T_rock_Bed_valid : T i_rock_Bed_valid = some f_rock_Bed_valid := rfl
theorem T_field_CheckModels : T i_field_CheckModels = some f_field_CheckModels := rfl
theorem T_rock_all_field_Model : T i_rock_all_field_Model = some f_rock_all_field_Model := rfl
theorem T_rock_ready_1 : T i_rock_ready_1 = some f_rock_ready_1 := rfl
theorem T_rock_bedded_fits : T i_rock_bedded_fits = some f_rock_bedded_fits := rfl
theorem T_rock_bedded_weight : T i_rock_bedded_weight = some f_rock_bedded_weight := rfl
theorem T_rock_down : T i_rock_down = some f_rock_down := rfl
theorem T_rock_bedded_hold : T i_rock_bedded_hold = some f_rock_bedded_hold := rfl
theorem T_rock_Bed_rates : T i_rock_Bed_rates = some f_rock_Bed_rates := rfl
theorem T_rock_bedded_first : T i_rock_bedded_first = some f_rock_bedded_first := rfl
theorem T_rock_bedded_tick : T i_rock_bedded_tick = some f_rock_bedded_tick := rfl
theorem T_steam_all_steam_Row : T i_steam_all_steam_Row = some f_steam_all_steam_Row := rfl
theorem T_steam_Row_alone : T i_steam_Row_alone = some f_steam_Row_alone := rfl
theorem T_steam_flash_steam : T i_steam_flash_steam = some f_steam_flash_steam := rfl
theorem T_ref02_Name : T i_ref02_Name = some f_ref02_Name := rfl
theorem T_field_first : T i_field_first = some f_field_first := rfl
theorem T_field_Field_shape : T i_field_Field_shape = some f_field_Field_shape := rfl
theorem T_field_Field_models : T i_field_Field_models = some f_field_Field_models := rfl
theorem T_field_Field_valid : T i_field_Field_valid = some f_field_Field_valid := rfl
theorem T_field_within : T i_field_within = some f_field_within := rfl
theorem T_field_Field_blocks : T i_field_Field_blocks = some f_field_Field_blocks := rfl
theorem T_ref02_In : T i_ref02_In = some f_ref02_In := rfl
theorem T_ref02_ModelFault : T i_ref02_ModelFault = some f_ref02_ModelFault := rfl
theorem T_ref05_Value : T i_ref05_Value = some f_ref05_Value := rfl
theorem T_field_CheckField : T i_field_CheckField = some f_field_CheckField := rfl
theorem T_steam_CheckTable : T i_steam_CheckTable = some f_steam_CheckTable := rfl
theorem T_rock_all_rock_Bore : T i_rock_all_rock_Bore = some f_rock_all_rock_Bore := rfl
theorem T_rock_Bed_valid_1 : T i_rock_Bed_valid_1 = some f_rock_Bed_valid_1 := rfl
theorem T_field_CheckModels_1 : T i_field_CheckModels_1 = some f_field_CheckModels_1 := rfl
theorem T_slices_ContainsFunc_field_Model : T i_slices_ContainsFunc_field_Model = some f_slices_ContainsFunc_field_Model := rfl
theorem T_rock_all_field_Model_1 : T i_rock_all_field_Model_1 = some f_rock_all_field_Model_1 := rfl
theorem T_rock_all_int : T i_rock_all_int = some f_rock_all_int := rfl
theorem T_rock_bedded_kind : T i_rock_bedded_kind = some f_rock_bedded_kind := rfl
theorem T_rock_bedded_fits_1 : T i_rock_bedded_fits_1 = some f_rock_bedded_fits_1 := rfl
theorem T_rock_Bed_rates_1 : T i_rock_Bed_rates_1 = some f_rock_Bed_rates_1 := rfl
theorem T_rock_bedded_warm : T i_rock_bedded_warm = some f_rock_bedded_warm := rfl
theorem T_slices_Clone_rock_State_rock_Block : T i_slices_Clone_rock_State_rock_Block = some f_slices_Clone_rock_State_rock_Block := rfl
theorem T_rock_bedded_flows : T i_rock_bedded_flows = some f_rock_bedded_flows := rfl
theorem T_rock_Block_move : T i_rock_Block_move = some f_rock_Block_move := rfl
theorem T_rock_Bore_given : T i_rock_Bore_given = some f_rock_Bore_given := rfl
theorem T_rock_Block_out : T i_rock_Block_out = some f_rock_Block_out := rfl
theorem T_rock_bedded_fed : T i_rock_bedded_fed = some f_rock_bedded_fed := rfl
theorem T_rock_bedded_state : T i_rock_bedded_state = some f_rock_bedded_state := rfl
theorem T_slices_ContainsFunc_steam_Row : T i_slices_ContainsFunc_steam_Row = some f_slices_ContainsFunc_steam_Row := rfl
theorem T_steam_all_steam_Row_1 : T i_steam_all_steam_Row_1 = some f_steam_all_steam_Row_1 := rfl
theorem T_field_each_field_Model : T i_field_each_field_Model = some f_field_each_field_Model := rfl
theorem T_field_Field_models_1 : T i_field_Field_models_1 = some f_field_Field_models_1 := rfl
theorem T_field_Field_model : T i_field_Field_model = some f_field_Field_model := rfl
theorem T_slices_ContainsFunc_rock_Bore : T i_slices_ContainsFunc_rock_Bore = some f_slices_ContainsFunc_rock_Bore := rfl
theorem T_rock_all_rock_Bore_1 : T i_rock_all_rock_Bore_1 = some f_rock_all_rock_Bore_1 := rfl
theorem T_slices_IndexFunc_field_Model : T i_slices_IndexFunc_field_Model = some f_slices_IndexFunc_field_Model := rfl
theorem T_slices_ContainsFunc_int : T i_slices_ContainsFunc_int = some f_slices_ContainsFunc_int := rfl
theorem T_rock_all_int_1 : T i_rock_all_int_1 = some f_rock_all_int_1 := rfl
theorem T_rock_bedded_pressures : T i_rock_bedded_pressures = some f_rock_bedded_pressures := rfl
theorem T_rock_Bed_links : T i_rock_Bed_links = some f_rock_Bed_links := rfl
theorem T_rock_bedded_open : T i_rock_bedded_open = some f_rock_bedded_open := rfl
theorem T_rock_bedded_feed : T i_rock_bedded_feed = some f_rock_bedded_feed := rfl
theorem T_rock_all_rock_Block : T i_rock_all_rock_Block = some f_rock_all_rock_Block := rfl
theorem T_rock_Block_valid : T i_rock_Block_valid = some f_rock_Block_valid := rfl
theorem T_slices_IndexFunc_steam_Row : T i_slices_IndexFunc_steam_Row = some f_slices_IndexFunc_steam_Row := rfl
theorem T_field_named : T i_field_named = some f_field_named := rfl
theorem T_field_all_int : T i_field_all_int = some f_field_all_int := rfl
theorem T_field_Field_model_1 : T i_field_Field_model_1 = some f_field_Field_model_1 := rfl
theorem T_slices_IndexFunc_rock_Bore : T i_slices_IndexFunc_rock_Bore = some f_slices_IndexFunc_rock_Bore := rfl
theorem T_rock_Bed_links_1 : T i_rock_Bed_links_1 = some f_rock_Bed_links_1 := rfl
theorem T_slices_ContainsFunc_rock_Block : T i_slices_ContainsFunc_rock_Block = some f_slices_ContainsFunc_rock_Block := rfl
theorem T_rock_all_rock_Block_1 : T i_rock_all_rock_Block_1 = some f_rock_all_rock_Block_1 := rfl
theorem T_field_all_int_1 : T i_field_all_int_1 = some f_field_all_int_1 := rfl
theorem T_slices_IndexFunc_rock_Block : T i_slices_IndexFunc_rock_Block = some f_slices_IndexFunc_rock_Block := rfl
theorem mixed : Tryz.prog.follows .mixedOrders = true := by kernel_rfl
def FOk (f : Nat) (fn : Abs.Fn) : Prop := if f < 1000000 then FnOk Tryz.prog f fn else fn.body = .exit 0 ∧ NatOk Tryz.prog fn.npar (f - 1000000)
theorem fok {f : Nat} {fn : Abs.Fn} (h : f < 1000000) (h' : FnOk Tryz.prog f fn) : FOk f fn := by unfold FOk; rw [if_pos h]; exact h'
theorem F_top_TopSteam : FOk i_top_TopSteam f_top_TopSteam := fok (by decide) ⟨Tryz.f3, _, a_top_TopSteam, Tryz.func3, by decide, rfl, ok_top_TopSteam⟩
theorem F_top_run : FOk i_top_run f_top_run := fok (by decide) ⟨Tryz.f6, _, a_top_run, Tryz.func6, by decide, rfl, ok_top_run⟩
theorem F_top_still : FOk i_top_still f_top_still := fok (by decide) ⟨Tryz.f7, _, a_top_still, Tryz.func7, by decide, rfl, ok_top_still⟩
theorem F_law05_Bed : FOk i_law05_Bed f_law05_Bed := fok (by decide) ⟨Tryz.f8, _, a_law05_Bed, Tryz.func8, by decide, rfl, ok_law05_Bed⟩
theorem F_law02_Models : FOk i_law02_Models f_law02_Models := fok (by decide) ⟨Tryz.f9, _, a_law02_Models, Tryz.func9, by decide, rfl, ok_law02_Models⟩
theorem F_rock_Ahead : FOk i_rock_Ahead f_rock_Ahead := fok (by decide) ⟨Tryz.f10, _, a_rock_Ahead, Tryz.func10, by decide, rfl, ok_rock_Ahead⟩
theorem F_law05_Plan : FOk i_law05_Plan f_law05_Plan := fok (by decide) ⟨Tryz.f11, _, a_law05_Plan, Tryz.func11, by decide, rfl, ok_law05_Plan⟩
theorem F_rock_Play : FOk i_rock_Play f_rock_Play := fok (by decide) ⟨Tryz.f12, _, a_rock_Play, Tryz.func12, by decide, rfl, ok_rock_Play⟩
theorem F_steam_Bounds : FOk i_steam_Bounds f_steam_Bounds := fok (by decide) ⟨Tryz.f13, _, a_steam_Bounds, Tryz.func13, by decide, rfl, ok_steam_Bounds⟩
theorem F_steam_Flash : FOk i_steam_Flash f_steam_Flash := fok (by decide) ⟨Tryz.f14, _, a_steam_Flash, Tryz.func14, by decide, rfl, ok_steam_Flash⟩
theorem F_law02_Field : FOk i_law02_Field f_law02_Field := fok (by decide) ⟨Tryz.f17, _, a_law02_Field, Tryz.func17, by decide, rfl, ok_law02_Field⟩
theorem F_law02_Model : FOk i_law02_Model f_law02_Model := fok (by decide) ⟨Tryz.f29, _, a_law02_Model, Tryz.func29, by decide, rfl, ok_law02_Model⟩
theorem F_ref05_Right : FOk i_ref05_Right f_ref05_Right := fok (by decide) ⟨Tryz.f30, _, a_ref05_Right, Tryz.func30, by decide, rfl, ok_ref05_Right⟩
theorem F_ref05_ModelsFault : FOk i_ref05_ModelsFault f_ref05_ModelsFault := fok (by decide) ⟨Tryz.f31, _, a_ref05_ModelsFault, Tryz.func31, by decide, rfl, ok_ref05_ModelsFault⟩
theorem F_ref05_PlanFault : FOk i_ref05_PlanFault f_ref05_PlanFault := fok (by decide) ⟨Tryz.f32, _, a_ref05_PlanFault, Tryz.func32, by decide, rfl, ok_ref05_PlanFault⟩
theorem F_law01_Three : FOk i_law01_Three f_law01_Three := fok (by decide) ⟨Tryz.f33, _, a_law01_Three, Tryz.func33, by decide, rfl, ok_law01_Three⟩
theorem F_law01_Table : FOk i_law01_Table f_law01_Table := fok (by decide) ⟨Tryz.f34, _, a_law01_Table, Tryz.func34, by decide, rfl, ok_law01_Table⟩
theorem F_rock_ready : FOk i_rock_ready f_rock_ready := fok (by decide) ⟨Tryz.f35, _, a_rock_ready, Tryz.func35, by decide, rfl, ok_rock_ready⟩
theorem F_rock_caught : FOk i_rock_caught f_rock_caught := fok (by decide) ⟨Tryz.f36, _, a_rock_caught, Tryz.func36, by decide, rfl, ok_rock_caught⟩
theorem F_rock_runs : FOk i_rock_runs f_rock_runs := fok (by decide) ⟨Tryz.f37, _, a_rock_runs, Tryz.func37, by decide, rfl, ok_rock_runs⟩
theorem F_rock_span_rock_Yield : FOk i_rock_span_rock_Yield f_rock_span_rock_Yield := fok (by decide) ⟨Tryz.f38, _, a_rock_span_rock_Yield, Tryz.func38, by decide, rfl, ok_rock_span_rock_Yield⟩
theorem F_rock_Yield_mass : FOk i_rock_Yield_mass f_rock_Yield_mass := fok (by decide) ⟨Tryz.f39, _, a_rock_Yield_mass, Tryz.func39, by decide, rfl, ok_rock_Yield_mass⟩
theorem F_rock_Ahead_1 : FOk i_rock_Ahead_1 f_rock_Ahead_1 := fok (by decide) ⟨Tryz.f40, _, a_rock_Ahead_1, Tryz.func40, by decide, rfl, ok_rock_Ahead_1⟩
theorem F_rock_Yield_stain : FOk i_rock_Yield_stain f_rock_Yield_stain := fok (by decide) ⟨Tryz.f41, _, a_rock_Yield_stain, Tryz.func41, by decide, rfl, ok_rock_Yield_stain⟩
theorem F_rock_Bed_size : FOk i_rock_Bed_size f_rock_Bed_size := fok (by decide) ⟨Tryz.f42, _, a_rock_Bed_size, Tryz.func42, by decide, rfl, ok_rock_Bed_size⟩
theorem F_rock_bedded_pressure : FOk i_rock_bedded_pressure f_rock_bedded_pressure := fok (by decide) ⟨Tryz.f43, _, a_rock_bedded_pressure, Tryz.func43, by decide, rfl, ok_rock_bedded_pressure⟩
theorem F_rock_span_int : FOk i_rock_span_int f_rock_span_int := fok (by decide) ⟨Tryz.f44, _, a_rock_span_int, Tryz.func44, by decide, rfl, ok_rock_span_int⟩
theorem F_rock_Ahead_2 : FOk i_rock_Ahead_2 f_rock_Ahead_2 := fok (by decide) ⟨Tryz.f45, _, a_rock_Ahead_2, Tryz.func45, by decide, rfl, ok_rock_Ahead_2⟩
theorem F_rock_bed : FOk i_rock_bed f_rock_bed := fok (by decide) ⟨Tryz.f46, _, a_rock_bed, Tryz.func46, by decide, rfl, ok_rock_bed⟩
theorem F_rock_Bed_plan : FOk i_rock_Bed_plan f_rock_Bed_plan := fok (by decide) ⟨Tryz.f47, _, a_rock_Bed_plan, Tryz.func47, by decide, rfl, ok_rock_Bed_plan⟩
theorem F_rock_bedded_run : FOk i_rock_bedded_run f_rock_bedded_run := fok (by decide) ⟨Tryz.f48, _, a_rock_bedded_run, Tryz.func48, by decide, rfl, ok_rock_bedded_run⟩
theorem F_steam_Table_valid : FOk i_steam_Table_valid f_steam_Table_valid := fok (by decide) ⟨Tryz.f49, _, a_steam_Table_valid, Tryz.func49, by decide, rfl, ok_steam_Table_valid⟩
theorem F_steam_Table_has : FOk i_steam_Table_has f_steam_Table_has := fok (by decide) ⟨Tryz.f50, _, a_steam_Table_has, Tryz.func50, by decide, rfl, ok_steam_Table_has⟩
theorem F_steam_within : FOk i_steam_within f_steam_within := fok (by decide) ⟨Tryz.f51, _, a_steam_within, Tryz.func51, by decide, rfl, ok_steam_within⟩
theorem F_steam_Range_ends : FOk i_steam_Range_ends f_steam_Range_ends := fok (by decide) ⟨Tryz.f52, _, a_steam_Range_ends, Tryz.func52, by decide, rfl, ok_steam_Range_ends⟩
theorem F_steam_Table_at : FOk i_steam_Table_at f_steam_Table_at := fok (by decide) ⟨Tryz.f53, _, a_steam_Table_at, Tryz.func53, by decide, rfl, ok_steam_Table_at⟩
theorem F_steam_flash_of : FOk i_steam_flash_of f_steam_flash_of := fok (by decide) ⟨Tryz.f54, _, a_steam_flash_of, Tryz.func54, by decide, rfl, ok_steam_flash_of⟩
theorem F_steam_Stream_valid : FOk i_steam_Stream_valid f_steam_Stream_valid := fok (by decide) ⟨Tryz.f55, _, a_steam_Stream_valid, Tryz.func55, by decide, rfl, ok_steam_Stream_valid⟩
theorem F_ref01_In : FOk i_ref01_In f_ref01_In := fok (by decide) ⟨Tryz.f57, _, a_ref01_In, Tryz.func57, by decide, rfl, ok_ref01_In⟩
theorem F_ref02_Size : FOk i_ref02_Size f_ref02_Size := fok (by decide) ⟨Tryz.f58, _, a_ref02_Size, Tryz.func58, by decide, rfl, ok_ref02_Size⟩
theorem F_slices_IndexFunc_int : FOk i_slices_IndexFunc_int f_slices_IndexFunc_int := fok (by decide) ⟨Tryz.f61, _, a_slices_IndexFunc_int, Tryz.func61, by decide, rfl, ok_slices_IndexFunc_int⟩
theorem F_rock_within : FOk i_rock_within f_rock_within := fok (by decide) ⟨Tryz.f76, _, a_rock_within, Tryz.func76, by decide, rfl, ok_rock_within⟩
theorem F_ref02_Right : FOk i_ref02_Right f_ref02_Right := fok (by decide) ⟨Tryz.f79, _, a_ref02_Right, Tryz.func79, by decide, rfl, ok_ref02_Right⟩
theorem F_ref01_Right : FOk i_ref01_Right f_ref01_Right := fok (by decide) ⟨Tryz.f80, _, a_ref01_Right, Tryz.func80, by decide, rfl, ok_ref01_Right⟩
theorem F_ref02_ModelsFault : FOk i_ref02_ModelsFault f_ref02_ModelsFault := fok (by decide) ⟨Tryz.f81, _, a_ref02_ModelsFault, Tryz.func81, by decide, rfl, ok_ref02_ModelsFault⟩
theorem F_ref05_Fits : FOk i_ref05_Fits f_ref05_Fits := fok (by decide) ⟨Tryz.f82, _, a_ref05_Fits, Tryz.func82, by decide, rfl, ok_ref05_Fits⟩
theorem F_ref05_RatesFault : FOk i_ref05_RatesFault f_ref05_RatesFault := fok (by decide) ⟨Tryz.f83, _, a_ref05_RatesFault, Tryz.func83, by decide, rfl, ok_ref05_RatesFault⟩
theorem F_rock_Bed_valid : FOk i_rock_Bed_valid f_rock_Bed_valid := fok (by decide) ⟨Tryz.f84, _, a_rock_Bed_valid, Tryz.func84, by decide, rfl, ok_rock_Bed_valid⟩
theorem F_field_CheckModels : FOk i_field_CheckModels f_field_CheckModels := fok (by decide) ⟨Tryz.f85, _, a_field_CheckModels, Tryz.func85, by decide, rfl, ok_field_CheckModels⟩
theorem F_rock_all_field_Model : FOk i_rock_all_field_Model f_rock_all_field_Model := fok (by decide) ⟨Tryz.f86, _, a_rock_all_field_Model, Tryz.func86, by decide, rfl, ok_rock_all_field_Model⟩
theorem F_rock_ready_1 : FOk i_rock_ready_1 f_rock_ready_1 := fok (by decide) ⟨Tryz.f87, _, a_rock_ready_1, Tryz.func87, by decide, rfl, ok_rock_ready_1⟩
theorem F_rock_bedded_fits : FOk i_rock_bedded_fits f_rock_bedded_fits := fok (by decide) ⟨Tryz.f88, _, a_rock_bedded_fits, Tryz.func88, by decide, rfl, ok_rock_bedded_fits⟩
theorem F_rock_bedded_weight : FOk i_rock_bedded_weight f_rock_bedded_weight := fok (by decide) ⟨Tryz.f89, _, a_rock_bedded_weight, Tryz.func89, by decide, rfl, ok_rock_bedded_weight⟩
theorem F_rock_down : FOk i_rock_down f_rock_down := fok (by decide) ⟨Tryz.f90, _, a_rock_down, Tryz.func90, by decide, rfl, ok_rock_down⟩
theorem F_rock_bedded_hold : FOk i_rock_bedded_hold f_rock_bedded_hold := fok (by decide) ⟨Tryz.f91, _, a_rock_bedded_hold, Tryz.func91, by decide, rfl, ok_rock_bedded_hold⟩
theorem F_rock_Bed_rates : FOk i_rock_Bed_rates f_rock_Bed_rates := fok (by decide) ⟨Tryz.f92, _, a_rock_Bed_rates, Tryz.func92, by decide, rfl, ok_rock_Bed_rates⟩
theorem F_rock_bedded_first : FOk i_rock_bedded_first f_rock_bedded_first := fok (by decide) ⟨Tryz.f93, _, a_rock_bedded_first, Tryz.func93, by decide, rfl, ok_rock_bedded_first⟩
theorem F_rock_bedded_tick : FOk i_rock_bedded_tick f_rock_bedded_tick := fok (by decide) ⟨Tryz.f94, _, a_rock_bedded_tick, Tryz.func94, by decide, rfl, ok_rock_bedded_tick⟩
theorem F_steam_all_steam_Row : FOk i_steam_all_steam_Row f_steam_all_steam_Row := fok (by decide) ⟨Tryz.f95, _, a_steam_all_steam_Row, Tryz.func95, by decide, rfl, ok_steam_all_steam_Row⟩
theorem F_steam_Row_alone : FOk i_steam_Row_alone f_steam_Row_alone := fok (by decide) ⟨Tryz.f96, _, a_steam_Row_alone, Tryz.func96, by decide, rfl, ok_steam_Row_alone⟩
theorem F_steam_flash_steam : FOk i_steam_flash_steam f_steam_flash_steam := fok (by decide) ⟨Tryz.f97, _, a_steam_flash_steam, Tryz.func97, by decide, rfl, ok_steam_flash_steam⟩
theorem F_ref02_Name : FOk i_ref02_Name f_ref02_Name := fok (by decide) ⟨Tryz.f98, _, a_ref02_Name, Tryz.func98, by decide, rfl, ok_ref02_Name⟩
theorem F_field_first : FOk i_field_first f_field_first := fok (by decide) ⟨Tryz.f101, _, a_field_first, Tryz.func101, by decide, rfl, ok_field_first⟩
theorem F_field_Field_shape : FOk i_field_Field_shape f_field_Field_shape := fok (by decide) ⟨Tryz.f102, _, a_field_Field_shape, Tryz.func102, by decide, rfl, ok_field_Field_shape⟩
theorem F_field_Field_models : FOk i_field_Field_models f_field_Field_models := fok (by decide) ⟨Tryz.f104, _, a_field_Field_models, Tryz.func104, by decide, rfl, ok_field_Field_models⟩
theorem F_field_Field_valid : FOk i_field_Field_valid f_field_Field_valid := fok (by decide) ⟨Tryz.f111, _, a_field_Field_valid, Tryz.func111, by decide, rfl, ok_field_Field_valid⟩
theorem F_field_within : FOk i_field_within f_field_within := fok (by decide) ⟨Tryz.f112, _, a_field_within, Tryz.func112, by decide, rfl, ok_field_within⟩
theorem F_field_Field_blocks : FOk i_field_Field_blocks f_field_Field_blocks := fok (by decide) ⟨Tryz.f113, _, a_field_Field_blocks, Tryz.func113, by decide, rfl, ok_field_Field_blocks⟩
theorem F_ref02_In : FOk i_ref02_In f_ref02_In := fok (by decide) ⟨Tryz.f122, _, a_ref02_In, Tryz.func122, by decide, rfl, ok_ref02_In⟩
theorem F_ref02_ModelFault : FOk i_ref02_ModelFault f_ref02_ModelFault := fok (by decide) ⟨Tryz.f123, _, a_ref02_ModelFault, Tryz.func123, by decide, rfl, ok_ref02_ModelFault⟩
theorem F_ref05_Value : FOk i_ref05_Value f_ref05_Value := fok (by decide) ⟨Tryz.f124, _, a_ref05_Value, Tryz.func124, by decide, rfl, ok_ref05_Value⟩
theorem F_field_CheckField : FOk i_field_CheckField f_field_CheckField := fok (by decide) ⟨Tryz.f125, _, a_field_CheckField, Tryz.func125, by decide, rfl, ok_field_CheckField⟩
theorem F_steam_CheckTable : FOk i_steam_CheckTable f_steam_CheckTable := fok (by decide) ⟨Tryz.f126, _, a_steam_CheckTable, Tryz.func126, by decide, rfl, ok_steam_CheckTable⟩
theorem F_rock_all_rock_Bore : FOk i_rock_all_rock_Bore f_rock_all_rock_Bore := fok (by decide) ⟨Tryz.f127, _, a_rock_all_rock_Bore, Tryz.func127, by decide, rfl, ok_rock_all_rock_Bore⟩
theorem F_rock_Bed_valid_1 : FOk i_rock_Bed_valid_1 f_rock_Bed_valid_1 := fok (by decide) ⟨Tryz.f128, _, a_rock_Bed_valid_1, Tryz.func128, by decide, rfl, ok_rock_Bed_valid_1⟩
theorem F_field_CheckModels_1 : FOk i_field_CheckModels_1 f_field_CheckModels_1 := fok (by decide) ⟨Tryz.f129, _, a_field_CheckModels_1, Tryz.func129, by decide, rfl, ok_field_CheckModels_1⟩
theorem F_slices_ContainsFunc_field_Model : FOk i_slices_ContainsFunc_field_Model f_slices_ContainsFunc_field_Model := fok (by decide) ⟨Tryz.f130, _, a_slices_ContainsFunc_field_Model, Tryz.func130, by decide, rfl, ok_slices_ContainsFunc_field_Model⟩
theorem F_rock_all_field_Model_1 : FOk i_rock_all_field_Model_1 f_rock_all_field_Model_1 := fok (by decide) ⟨Tryz.f131, _, a_rock_all_field_Model_1, Tryz.func131, by decide, rfl, ok_rock_all_field_Model_1⟩
theorem F_rock_all_int : FOk i_rock_all_int f_rock_all_int := fok (by decide) ⟨Tryz.f132, _, a_rock_all_int, Tryz.func132, by decide, rfl, ok_rock_all_int⟩
theorem F_rock_bedded_kind : FOk i_rock_bedded_kind f_rock_bedded_kind := fok (by decide) ⟨Tryz.f133, _, a_rock_bedded_kind, Tryz.func133, by decide, rfl, ok_rock_bedded_kind⟩
theorem F_rock_bedded_fits_1 : FOk i_rock_bedded_fits_1 f_rock_bedded_fits_1 := fok (by decide) ⟨Tryz.f134, _, a_rock_bedded_fits_1, Tryz.func134, by decide, rfl, ok_rock_bedded_fits_1⟩
theorem F_rock_Bed_rates_1 : FOk i_rock_Bed_rates_1 f_rock_Bed_rates_1 := fok (by decide) ⟨Tryz.f135, _, a_rock_Bed_rates_1, Tryz.func135, by decide, rfl, ok_rock_Bed_rates_1⟩
theorem F_rock_bedded_warm : FOk i_rock_bedded_warm f_rock_bedded_warm := fok (by decide) ⟨Tryz.f136, _, a_rock_bedded_warm, Tryz.func136, by decide, rfl, ok_rock_bedded_warm⟩
theorem F_slices_Clone_rock_State_rock_Block : FOk i_slices_Clone_rock_State_rock_Block f_slices_Clone_rock_State_rock_Block := fok (by decide) ⟨Tryz.f137, _, a_slices_Clone_rock_State_rock_Block, Tryz.func137, by decide, rfl, ok_slices_Clone_rock_State_rock_Block⟩
theorem F_rock_bedded_flows : FOk i_rock_bedded_flows f_rock_bedded_flows := fok (by decide) ⟨Tryz.f138, _, a_rock_bedded_flows, Tryz.func138, by decide, rfl, ok_rock_bedded_flows⟩
theorem F_rock_Block_move : FOk i_rock_Block_move f_rock_Block_move := fok (by decide) ⟨Tryz.f139, _, a_rock_Block_move, Tryz.func139, by decide, rfl, ok_rock_Block_move⟩
theorem F_rock_Bore_given : FOk i_rock_Bore_given f_rock_Bore_given := fok (by decide) ⟨Tryz.f140, _, a_rock_Bore_given, Tryz.func140, by decide, rfl, ok_rock_Bore_given⟩
theorem F_rock_Block_out : FOk i_rock_Block_out f_rock_Block_out := fok (by decide) ⟨Tryz.f141, _, a_rock_Block_out, Tryz.func141, by decide, rfl, ok_rock_Block_out⟩
theorem F_rock_bedded_fed : FOk i_rock_bedded_fed f_rock_bedded_fed := fok (by decide) ⟨Tryz.f142, _, a_rock_bedded_fed, Tryz.func142, by decide, rfl, ok_rock_bedded_fed⟩
theorem F_rock_bedded_state : FOk i_rock_bedded_state f_rock_bedded_state := fok (by decide) ⟨Tryz.f143, _, a_rock_bedded_state, Tryz.func143, by decide, rfl, ok_rock_bedded_state⟩
theorem F_slices_ContainsFunc_steam_Row : FOk i_slices_ContainsFunc_steam_Row f_slices_ContainsFunc_steam_Row := fok (by decide) ⟨Tryz.f144, _, a_slices_ContainsFunc_steam_Row, Tryz.func144, by decide, rfl, ok_slices_ContainsFunc_steam_Row⟩
theorem F_steam_all_steam_Row_1 : FOk i_steam_all_steam_Row_1 f_steam_all_steam_Row_1 := fok (by decide) ⟨Tryz.f145, _, a_steam_all_steam_Row_1, Tryz.func145, by decide, rfl, ok_steam_all_steam_Row_1⟩
theorem F_field_each_field_Model : FOk i_field_each_field_Model f_field_each_field_Model := fok (by decide) ⟨Tryz.f146, _, a_field_each_field_Model, Tryz.func146, by decide, rfl, ok_field_each_field_Model⟩
theorem F_field_Field_models_1 : FOk i_field_Field_models_1 f_field_Field_models_1 := fok (by decide) ⟨Tryz.f147, _, a_field_Field_models_1, Tryz.func147, by decide, rfl, ok_field_Field_models_1⟩
theorem F_field_Field_model : FOk i_field_Field_model f_field_Field_model := fok (by decide) ⟨Tryz.f148, _, a_field_Field_model, Tryz.func148, by decide, rfl, ok_field_Field_model⟩
theorem F_slices_ContainsFunc_rock_Bore : FOk i_slices_ContainsFunc_rock_Bore f_slices_ContainsFunc_rock_Bore := fok (by decide) ⟨Tryz.f156, _, a_slices_ContainsFunc_rock_Bore, Tryz.func156, by decide, rfl, ok_slices_ContainsFunc_rock_Bore⟩
theorem F_rock_all_rock_Bore_1 : FOk i_rock_all_rock_Bore_1 f_rock_all_rock_Bore_1 := fok (by decide) ⟨Tryz.f157, _, a_rock_all_rock_Bore_1, Tryz.func157, by decide, rfl, ok_rock_all_rock_Bore_1⟩
theorem F_slices_IndexFunc_field_Model : FOk i_slices_IndexFunc_field_Model f_slices_IndexFunc_field_Model := fok (by decide) ⟨Tryz.f158, _, a_slices_IndexFunc_field_Model, Tryz.func158, by decide, rfl, ok_slices_IndexFunc_field_Model⟩
theorem F_slices_ContainsFunc_int : FOk i_slices_ContainsFunc_int f_slices_ContainsFunc_int := fok (by decide) ⟨Tryz.f159, _, a_slices_ContainsFunc_int, Tryz.func159, by decide, rfl, ok_slices_ContainsFunc_int⟩
theorem F_rock_all_int_1 : FOk i_rock_all_int_1 f_rock_all_int_1 := fok (by decide) ⟨Tryz.f160, _, a_rock_all_int_1, Tryz.func160, by decide, rfl, ok_rock_all_int_1⟩
theorem F_rock_bedded_pressures : FOk i_rock_bedded_pressures f_rock_bedded_pressures := fok (by decide) ⟨Tryz.f161, _, a_rock_bedded_pressures, Tryz.func161, by decide, rfl, ok_rock_bedded_pressures⟩
theorem F_rock_Bed_links : FOk i_rock_Bed_links f_rock_Bed_links := fok (by decide) ⟨Tryz.f162, _, a_rock_Bed_links, Tryz.func162, by decide, rfl, ok_rock_Bed_links⟩
theorem F_rock_bedded_open : FOk i_rock_bedded_open f_rock_bedded_open := fok (by decide) ⟨Tryz.f163, _, a_rock_bedded_open, Tryz.func163, by decide, rfl, ok_rock_bedded_open⟩
theorem F_rock_bedded_feed : FOk i_rock_bedded_feed f_rock_bedded_feed := fok (by decide) ⟨Tryz.f164, _, a_rock_bedded_feed, Tryz.func164, by decide, rfl, ok_rock_bedded_feed⟩
theorem F_rock_all_rock_Block : FOk i_rock_all_rock_Block f_rock_all_rock_Block := fok (by decide) ⟨Tryz.f165, _, a_rock_all_rock_Block, Tryz.func165, by decide, rfl, ok_rock_all_rock_Block⟩
theorem F_rock_Block_valid : FOk i_rock_Block_valid f_rock_Block_valid := fok (by decide) ⟨Tryz.f166, _, a_rock_Block_valid, Tryz.func166, by decide, rfl, ok_rock_Block_valid⟩
theorem F_slices_IndexFunc_steam_Row : FOk i_slices_IndexFunc_steam_Row f_slices_IndexFunc_steam_Row := fok (by decide) ⟨Tryz.f167, _, a_slices_IndexFunc_steam_Row, Tryz.func167, by decide, rfl, ok_slices_IndexFunc_steam_Row⟩
theorem F_field_named : FOk i_field_named f_field_named := fok (by decide) ⟨Tryz.f168, _, a_field_named, Tryz.func168, by decide, rfl, ok_field_named⟩
theorem F_field_all_int : FOk i_field_all_int f_field_all_int := fok (by decide) ⟨Tryz.f169, _, a_field_all_int, Tryz.func169, by decide, rfl, ok_field_all_int⟩
theorem F_field_Field_model_1 : FOk i_field_Field_model_1 f_field_Field_model_1 := fok (by decide) ⟨Tryz.f170, _, a_field_Field_model_1, Tryz.func170, by decide, rfl, ok_field_Field_model_1⟩
theorem F_slices_IndexFunc_rock_Bore : FOk i_slices_IndexFunc_rock_Bore f_slices_IndexFunc_rock_Bore := fok (by decide) ⟨Tryz.f174, _, a_slices_IndexFunc_rock_Bore, Tryz.func174, by decide, rfl, ok_slices_IndexFunc_rock_Bore⟩
theorem F_rock_Bed_links_1 : FOk i_rock_Bed_links_1 f_rock_Bed_links_1 := fok (by decide) ⟨Tryz.f175, _, a_rock_Bed_links_1, Tryz.func175, by decide, rfl, ok_rock_Bed_links_1⟩
theorem F_slices_ContainsFunc_rock_Block : FOk i_slices_ContainsFunc_rock_Block f_slices_ContainsFunc_rock_Block := fok (by decide) ⟨Tryz.f176, _, a_slices_ContainsFunc_rock_Block, Tryz.func176, by decide, rfl, ok_slices_ContainsFunc_rock_Block⟩
theorem F_rock_all_rock_Block_1 : FOk i_rock_all_rock_Block_1 f_rock_all_rock_Block_1 := fok (by decide) ⟨Tryz.f177, _, a_rock_all_rock_Block_1, Tryz.func177, by decide, rfl, ok_rock_all_rock_Block_1⟩
theorem F_field_all_int_1 : FOk i_field_all_int_1 f_field_all_int_1 := fok (by decide) ⟨Tryz.f178, _, a_field_all_int_1, Tryz.func178, by decide, rfl, ok_field_all_int_1⟩
theorem F_slices_IndexFunc_rock_Block : FOk i_slices_IndexFunc_rock_Block f_slices_IndexFunc_rock_Block := fok (by decide) ⟨Tryz.f179, _, a_slices_IndexFunc_rock_Block, Tryz.func179, by decide, rfl, ok_slices_IndexFunc_rock_Block⟩
theorem FAll : ∀ p ∈ tbl, FOk p.1 p.2 := by
  simp only [tbl, List.forall_mem_cons]
  exact ⟨F_top_TopSteam, F_top_run, F_top_still, F_law05_Bed, F_law02_Models, F_rock_Ahead, F_law05_Plan, F_rock_Play, F_steam_Bounds, F_steam_Flash, F_law02_Field, F_law02_Model, F_ref05_Right, F_ref05_ModelsFault, F_ref05_PlanFault, F_law01_Three, F_law01_Table, F_rock_ready, F_rock_caught, F_rock_runs, F_rock_span_rock_Yield, F_rock_Yield_mass, F_rock_Ahead_1, F_rock_Yield_stain, F_rock_Bed_size, F_rock_bedded_pressure, F_rock_span_int, F_rock_Ahead_2, F_rock_bed, F_rock_Bed_plan, F_rock_bedded_run, F_steam_Table_valid, F_steam_Table_has, F_steam_within, F_steam_Range_ends, F_steam_Table_at, F_steam_flash_of, F_steam_Stream_valid, F_ref01_In, F_ref02_Size, F_slices_IndexFunc_int, F_rock_within, F_ref02_Right, F_ref01_Right, F_ref02_ModelsFault, F_ref05_Fits, F_ref05_RatesFault, F_rock_Bed_valid, F_field_CheckModels, F_rock_all_field_Model, F_rock_ready_1, F_rock_bedded_fits, F_rock_bedded_weight, F_rock_down, F_rock_bedded_hold, F_rock_Bed_rates, F_rock_bedded_first, F_rock_bedded_tick, F_steam_all_steam_Row, F_steam_Row_alone, F_steam_flash_steam, F_ref02_Name, F_field_first, F_field_Field_shape, F_field_Field_models, F_field_Field_valid, F_field_within, F_field_Field_blocks, F_ref02_In, F_ref02_ModelFault, F_ref05_Value, F_field_CheckField, F_steam_CheckTable, F_rock_all_rock_Bore, F_rock_Bed_valid_1, F_field_CheckModels_1, F_slices_ContainsFunc_field_Model, F_rock_all_field_Model_1, F_rock_all_int, F_rock_bedded_kind, F_rock_bedded_fits_1, F_rock_Bed_rates_1, F_rock_bedded_warm, F_slices_Clone_rock_State_rock_Block, F_rock_bedded_flows, F_rock_Block_move, F_rock_Bore_given, F_rock_Block_out, F_rock_bedded_fed, F_rock_bedded_state, F_slices_ContainsFunc_steam_Row, F_steam_all_steam_Row_1, F_field_each_field_Model, F_field_Field_models_1, F_field_Field_model, F_slices_ContainsFunc_rock_Bore, F_rock_all_rock_Bore_1, F_slices_IndexFunc_field_Model, F_slices_ContainsFunc_int, F_rock_all_int_1, F_rock_bedded_pressures, F_rock_Bed_links, F_rock_bedded_open, F_rock_bedded_feed, F_rock_all_rock_Block, F_rock_Block_valid, F_slices_IndexFunc_steam_Row, F_field_named, F_field_all_int, F_field_Field_model_1, F_slices_IndexFunc_rock_Bore, F_rock_Bed_links_1, F_slices_ContainsFunc_rock_Block, F_rock_all_rock_Block_1, F_field_all_int_1, F_slices_IndexFunc_rock_Block, by simp⟩
theorem TT : TOk Tryz.prog T := by
  intro f fn h
  have h' : ∃ p, tbl.find? (fun p => p.1 == f) = some p ∧ p.2 = fn := by simpa [T] using h
  obtain ⟨p, h1, h2⟩ := h'
  have h3 := List.mem_of_find?_eq_some h1
  have h4 := List.find?_some h1
  have h6 := FAll p h3
  simp only [beq_iff_eq] at h4
  subst h2
  rw [← h4]
  exact h6
end Go.Proofs.YtehandllpmlcoaaGreat
