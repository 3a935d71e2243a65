/- The table of functions: all that it says is the program's. -/
import Derived.Test.YtehandllpmlcoaaGreatF0
import Derived.Test.YtehandllpmlcoaaGreatF1
import Derived.Test.YtehandllpmlcoaaGreatF2
import Derived.Test.YtehandllpmlcoaaGreatBase3
set_option linter.unusedVariables false
set_option linter.unusedSimpArgs false
set_option maxRecDepth 100000
namespace Go.Proofs.YtehandllpmlcoaaGreat
open Go Go.Abs
def tbl : List (Nat × Abs.Fn) := [(i_top_TopEither, f_top_TopEither), (i_top_run, f_top_run), (i_top_still, f_top_still), (i_law05_Bed, f_law05_Bed), (i_law02_Models, f_law02_Models), (i_law05_Plan, f_law05_Plan), (i_rock_Play, f_rock_Play), (i_ref02_MeasuresFault, f_ref02_MeasuresFault), (i_ref05_ReadingsFault, f_ref05_ReadingsFault), (i_law02_Field, f_law02_Field), (i_field_Strikes, f_field_Strikes), (i_law02_Measures, f_law02_Measures), (i_rock_Strikes, f_rock_Strikes), (i_law05_Readings, f_law05_Readings), (i_top_some, f_top_some), (i_law02_Model, f_law02_Model), (i_ref05_Right, f_ref05_Right), (i_ref05_ModelsFault, f_ref05_ModelsFault), (i_ref05_PlanFault, f_ref05_PlanFault), (i_law01_Three, f_law01_Three), (i_law01_Table, f_law01_Table), (i_rock_ready, f_rock_ready), (i_rock_caught, f_rock_caught), (i_rock_runs, f_rock_runs), (i_rock_Yield_mass, f_rock_Yield_mass), (i_rock_Yield_stain, f_rock_Yield_stain), (i_rock_Bed_size, f_rock_Bed_size), (i_rock_bedded_pressure, f_rock_bedded_pressure), (i_rock_bed, f_rock_bed), (i_rock_Bed_plan, f_rock_Bed_plan), (i_rock_bedded_run, f_rock_bedded_run), (i_steam_Table_valid, f_steam_Table_valid), (i_steam_within, f_steam_within), (i_ref02_MeasureFault, f_ref02_MeasureFault), (i_ref01_In, f_ref01_In), (i_ref02_Size, f_ref02_Size), (i_field_both, f_field_both), (i_field_Field_misses, f_field_Field_misses), (i_slices_IndexFunc_int, f_slices_IndexFunc_int), (i_field_Strikes_1, f_field_Strikes_1), (i_law02_Measure, f_law02_Measure), (i_rock_Bed_reading, f_rock_Bed_reading), (i_rock_Range_miss, f_rock_Range_miss), (i_rock_bedded_value, f_rock_bedded_value), (i_rock_within, f_rock_within), (i_ref02_Right, f_ref02_Right), (i_ref01_Right, f_ref01_Right), (i_ref02_ModelsFault, f_ref02_ModelsFault), (i_ref05_Fits, f_ref05_Fits), (i_ref05_RatesFault, f_ref05_RatesFault), (i_rock_Bed_valid, f_rock_Bed_valid), (i_field_CheckModels, f_field_CheckModels), (i_rock_all_field_Model, f_rock_all_field_Model), (i_rock_ready_1, f_rock_ready_1), (i_rock_bedded_fits, f_rock_bedded_fits), (i_rock_bedded_weight, f_rock_bedded_weight), (i_rock_down, f_rock_down), (i_rock_bedded_hold, f_rock_bedded_hold), (i_rock_Bed_rates, f_rock_Bed_rates), (i_rock_bedded_first, f_rock_bedded_first), (i_rock_bedded_tick, f_rock_bedded_tick), (i_steam_all_steam_Row, f_steam_all_steam_Row), (i_steam_Row_alone, f_steam_Row_alone), (i_ref02_Name, f_ref02_Name), (i_ref02_sums, f_ref02_sums), (i_ref02_Ends, f_ref02_Ends), (i_field_first, f_field_first), (i_field_Field_shape, f_field_Field_shape), (i_field_both_1, f_field_both_1), (i_field_Field_models, f_field_Field_models), (i_field_both_2, f_field_both_2), (i_field_Field_measures, f_field_Field_measures), (i_field_Range_miss, f_field_Range_miss), (i_field_Field_weighs, f_field_Field_weighs), (i_law02_Range, f_law02_Range), (i_rock_tells, f_rock_tells), (i_field_Field_valid, f_field_Field_valid), (i_field_within, f_field_within), (i_field_Field_blocks, f_field_Field_blocks), (i_ref02_In, f_ref02_In), (i_ref02_ModelFault, f_ref02_ModelFault), (i_ref05_Value, f_ref05_Value), (i_field_CheckField, f_field_CheckField), (i_steam_CheckTable, f_steam_CheckTable), (i_rock_all_rock_Bore, f_rock_all_rock_Bore), (i_rock_Bed_valid_1, f_rock_Bed_valid_1), (i_field_CheckModels_1, f_field_CheckModels_1), (i_slices_ContainsFunc_field_Model, f_slices_ContainsFunc_field_Model), (i_rock_all_field_Model_1, f_rock_all_field_Model_1), (i_rock_all_int, f_rock_all_int), (i_rock_bedded_kind, f_rock_bedded_kind), (i_rock_bedded_fits_1, f_rock_bedded_fits_1), (i_rock_Bed_rates_1, f_rock_Bed_rates_1), (i_rock_bedded_warm, f_rock_bedded_warm), (i_slices_Clone_rock_State_rock_Block, f_slices_Clone_rock_State_rock_Block), (i_rock_bedded_flows, f_rock_bedded_flows), (i_rock_Block_move, f_rock_Block_move), (i_rock_Bore_given, f_rock_Bore_given), (i_rock_Block_out, f_rock_Block_out), (i_rock_bedded_fed, f_rock_bedded_fed), (i_rock_bedded_state, f_rock_bedded_state), (i_slices_ContainsFunc_steam_Row, f_slices_ContainsFunc_steam_Row), (i_steam_all_steam_Row_1, f_steam_all_steam_Row_1), (i_field_each_field_Model, f_field_each_field_Model), (i_field_Field_models_1, f_field_Field_models_1), (i_field_Field_model, f_field_Field_model), (i_field_each_field_Measure, f_field_each_field_Measure), (i_field_Field_measures_1, f_field_Field_measures_1), (i_field_Field_measure, f_field_Field_measure), (i_field_scale_of, f_field_scale_of), (i_rock_Yield_warmth, f_rock_Yield_warmth), (i_slices_ContainsFunc_rock_Bore, f_slices_ContainsFunc_rock_Bore), (i_rock_all_rock_Bore_1, f_rock_all_rock_Bore_1), (i_slices_IndexFunc_field_Model, f_slices_IndexFunc_field_Model), (i_slices_ContainsFunc_int, f_slices_ContainsFunc_int), (i_rock_all_int_1, f_rock_all_int_1), (i_rock_bedded_pressures, f_rock_bedded_pressures), (i_rock_Bed_links, f_rock_Bed_links), (i_rock_bedded_open, f_rock_bedded_open), (i_rock_bedded_feed, f_rock_bedded_feed), (i_rock_all_rock_Block, f_rock_all_rock_Block), (i_rock_Block_valid, f_rock_Block_valid), (i_slices_IndexFunc_steam_Row, f_slices_IndexFunc_steam_Row), (i_field_named, f_field_named), (i_field_all_int, f_field_all_int), (i_field_Field_model_1, f_field_Field_model_1), (i_field_Field_sums, f_field_Field_sums), (i_field_Range_ends, f_field_Range_ends), (i_slices_IndexFunc_rock_Bore, f_slices_IndexFunc_rock_Bore), (i_rock_Bed_links_1, f_rock_Bed_links_1), (i_slices_ContainsFunc_rock_Block, f_slices_ContainsFunc_rock_Block), (i_rock_all_rock_Block_1, f_rock_all_rock_Block_1), (i_field_all_int_1, f_field_all_int_1), (i_slices_IndexFunc_rock_Block, f_slices_IndexFunc_rock_Block)]
def T : Tbl := fun f => (tbl.find? fun p => p.1 == f).map (·.2)
theorem T_top_TopEither : T i_top_TopEither = some f_top_TopEither := rfl
theorem T_top_run : T i_top_run = some f_top_run := rfl
theorem T_top_still : T i_top_still = some f_top_still := rfl
theorem T_law05_Bed : T i_law05_Bed = some f_law05_Bed := rfl
theorem T_law02_Models : T i_law02_Models = some f_law02_Models := rfl
theorem T_law05_Plan : T i_law05_Plan = some f_law05_Plan := rfl
theorem T_rock_Play : T i_rock_Play = some f_rock_Play := rfl
theorem T_ref02_MeasuresFault : T i_ref02_MeasuresFault = some f_ref02_MeasuresFault := rfl
theorem T_ref05_ReadingsFault : T i_ref05_ReadingsFault = some f_ref05_ReadingsFault := rfl
theorem T_law02_Field : T i_law02_Field = some f_law02_Field := rfl
theorem T_field_Strikes : T i_field_Strikes = some f_field_Strikes := rfl
theorem T_law02_Measures : T i_law02_Measures = some f_law02_Measures := rfl
theorem T_rock_Strikes : T i_rock_Strikes = some f_rock_Strikes := rfl
theorem T_law05_Readings : T i_law05_Readings = some f_law05_Readings := rfl
theorem T_top_some : T i_top_some = some f_top_some := rfl
theorem T_law02_Model : T i_law02_Model = some f_law02_Model := rfl
theorem T_ref05_Right : T i_ref05_Right = some f_ref05_Right := rfl
theorem T_ref05_ModelsFault : T i_ref05_ModelsFault = some f_ref05_ModelsFault := rfl
theorem T_ref05_PlanFault : T i_ref05_PlanFault = some f_ref05_PlanFault := rfl
theorem T_law01_Three : T i_law01_Three = some f_law01_Three := rfl
theorem T_law01_Table : T i_law01_Table = some f_law01_Table := rfl
theorem T_rock_ready : T i_rock_ready = some f_rock_ready := rfl
theorem T_rock_caught : T i_rock_caught = some f_rock_caught := rfl
theorem T_rock_runs : T i_rock_runs = some f_rock_runs := rfl
theorem T_rock_Yield_mass : T i_rock_Yield_mass = some f_rock_Yield_mass := rfl
theorem T_rock_Yield_stain : T i_rock_Yield_stain = some f_rock_Yield_stain := rfl
theorem T_rock_Bed_size : T i_rock_Bed_size = some f_rock_Bed_size := rfl
theorem T_rock_bedded_pressure : T i_rock_bedded_pressure = some f_rock_bedded_pressure := rfl
theorem T_rock_bed : T i_rock_bed = some f_rock_bed := rfl
theorem T_rock_Bed_plan : T i_rock_Bed_plan = some f_rock_Bed_plan := rfl
theorem T_rock_bedded_run : T i_rock_bedded_run = some f_rock_bedded_run := rfl
theorem T_steam_Table_valid : T i_steam_Table_valid = some f_steam_Table_valid := rfl
theorem T_steam_within : T i_steam_within = some f_steam_within := rfl
theorem T_ref02_MeasureFault : T i_ref02_MeasureFault = some f_ref02_MeasureFault := rfl
theorem T_ref01_In : T i_ref01_In = some f_ref01_In := rfl
theorem T_ref02_Size : T i_ref02_Size = some f_ref02_Size := rfl
theorem T_field_both : T i_field_both = some f_field_both := rfl
theorem T_field_Field_misses : T i_field_Field_misses = some f_field_Field_misses := rfl
theorem T_slices_IndexFunc_int : T i_slices_IndexFunc_int = some f_slices_IndexFunc_int := rfl
theorem T_field_Strikes_1 : T i_field_Strikes_1 = some f_field_Strikes_1 := rfl
theorem T_law02_Measure : T i_law02_Measure = some f_law02_Measure := rfl
theorem T_rock_Bed_reading : T i_rock_Bed_reading = some f_rock_Bed_reading := rfl
theorem T_rock_Range_miss : T i_rock_Range_miss = some f_rock_Range_miss := rfl
theorem T_rock_bedded_value : T i_rock_bedded_value = some f_rock_bedded_value := rfl
theorem T_rock_within : T i_rock_within = some f_rock_within := rfl
theorem T_ref02_Right : T i_ref02_Right = some f_ref02_Right := rfl
theorem T_ref01_Right : T i_ref01_Right = some f_ref01_Right := rfl
theorem T_ref02_ModelsFault : T i_ref02_ModelsFault = some f_ref02_ModelsFault := rfl
theorem T_ref05_Fits : T i_ref05_Fits = some f_ref05_Fits := rfl
theorem T_ref05_RatesFault : T i_ref05_RatesFault = some f_ref05_RatesFault := rfl
theorem T_rock_Bed_valid : T i_rock_Bed_valid = some f_rock_Bed_valid := rfl
theorem T_field_CheckModels : T i_field_CheckModels = some f_field_CheckModels := rfl
theorem T_rock_all_field_Model : T i_rock_all_field_Model = some f_rock_all_field_Model := rfl
theorem T_rock_ready_1 : T i_rock_ready_1 = some f_rock_ready_1 := rfl
theorem T_rock_bedded_fits : T i_rock_bedded_fits = some f_rock_bedded_fits := rfl
theorem T_rock_bedded_weight : T i_rock_bedded_weight = some f_rock_bedded_weight := rfl
theorem T_rock_down : T i_rock_down = some f_rock_down := rfl
theorem T_rock_bedded_hold : T i_rock_bedded_hold = some f_rock_bedded_hold := rfl
theorem T_rock_Bed_rates : T i_rock_Bed_rates = some f_rock_Bed_rates := rfl
theorem T_rock_bedded_first : T i_rock_bedded_first = some f_rock_bedded_first := rfl
theorem T_rock_bedded_tick : T i_rock_bedded_tick = some f_rock_bedded_tick := rfl
theorem T_steam_all_steam_Row : T i_steam_all_steam_Row = some f_steam_all_steam_Row := rfl
theorem T_steam_Row_alone : T i_steam_Row_alone = some f_steam_Row_alone := rfl
theorem T_ref02_Name : T i_ref02_Name = some f_ref02_Name := rfl
theorem T_ref02_sums : T i_ref02_sums = some f_ref02_sums := rfl
theorem T_ref02_Ends : T i_ref02_Ends = some f_ref02_Ends := rfl
theorem T_field_first : T i_field_first = some f_field_first := rfl
theorem T_field_Field_shape : T i_field_Field_shape = some f_field_Field_shape := rfl
theorem T_field_both_1 : T i_field_both_1 = some f_field_both_1 := rfl
theorem T_field_Field_models : T i_field_Field_models = some f_field_Field_models := rfl
theorem T_field_both_2 : T i_field_both_2 = some f_field_both_2 := rfl
theorem T_field_Field_measures : T i_field_Field_measures = some f_field_Field_measures := rfl
theorem T_field_Range_miss : T i_field_Range_miss = some f_field_Range_miss := rfl
theorem T_field_Field_weighs : T i_field_Field_weighs = some f_field_Field_weighs := rfl
theorem T_law02_Range : T i_law02_Range = some f_law02_Range := rfl
theorem T_rock_tells : T i_rock_tells = some f_rock_tells := rfl
theorem T_field_Field_valid : T i_field_Field_valid = some f_field_Field_valid := rfl
theorem T_field_within : T i_field_within = some f_field_within := rfl
theorem T_field_Field_blocks : T i_field_Field_blocks = some f_field_Field_blocks := rfl
theorem T_ref02_In : T i_ref02_In = some f_ref02_In := rfl
theorem T_ref02_ModelFault : T i_ref02_ModelFault = some f_ref02_ModelFault := rfl
theorem T_ref05_Value : T i_ref05_Value = some f_ref05_Value := rfl
theorem T_field_CheckField : T i_field_CheckField = some f_field_CheckField := rfl
theorem T_steam_CheckTable : T i_steam_CheckTable = some f_steam_CheckTable := rfl
theorem T_rock_all_rock_Bore : T i_rock_all_rock_Bore = some f_rock_all_rock_Bore := rfl
theorem T_rock_Bed_valid_1 : T i_rock_Bed_valid_1 = some f_rock_Bed_valid_1 := rfl
theorem T_field_CheckModels_1 : T i_field_CheckModels_1 = some f_field_CheckModels_1 := rfl
theorem T_slices_ContainsFunc_field_Model : T i_slices_ContainsFunc_field_Model = some f_slices_ContainsFunc_field_Model := rfl
theorem T_rock_all_field_Model_1 : T i_rock_all_field_Model_1 = some f_rock_all_field_Model_1 := rfl
theorem T_rock_all_int : T i_rock_all_int = some f_rock_all_int := rfl
theorem T_rock_bedded_kind : T i_rock_bedded_kind = some f_rock_bedded_kind := rfl
theorem T_rock_bedded_fits_1 : T i_rock_bedded_fits_1 = some f_rock_bedded_fits_1 := rfl
theorem T_rock_Bed_rates_1 : T i_rock_Bed_rates_1 = some f_rock_Bed_rates_1 := rfl
theorem T_rock_bedded_warm : T i_rock_bedded_warm = some f_rock_bedded_warm := rfl
theorem T_slices_Clone_rock_State_rock_Block : T i_slices_Clone_rock_State_rock_Block = some f_slices_Clone_rock_State_rock_Block := rfl
theorem T_rock_bedded_flows : T i_rock_bedded_flows = some f_rock_bedded_flows := rfl
theorem T_rock_Block_move : T i_rock_Block_move = some f_rock_Block_move := rfl
theorem T_rock_Bore_given : T i_rock_Bore_given = some f_rock_Bore_given := rfl
theorem T_rock_Block_out : T i_rock_Block_out = some f_rock_Block_out := rfl
theorem T_rock_bedded_fed : T i_rock_bedded_fed = some f_rock_bedded_fed := rfl
theorem T_rock_bedded_state : T i_rock_bedded_state = some f_rock_bedded_state := rfl
theorem T_slices_ContainsFunc_steam_Row : T i_slices_ContainsFunc_steam_Row = some f_slices_ContainsFunc_steam_Row := rfl
theorem T_steam_all_steam_Row_1 : T i_steam_all_steam_Row_1 = some f_steam_all_steam_Row_1 := rfl
theorem T_field_each_field_Model : T i_field_each_field_Model = some f_field_each_field_Model := rfl
theorem T_field_Field_models_1 : T i_field_Field_models_1 = some f_field_Field_models_1 := rfl
theorem T_field_Field_model : T i_field_Field_model = some f_field_Field_model := rfl
theorem T_field_each_field_Measure : T i_field_each_field_Measure = some f_field_each_field_Measure := rfl
theorem T_field_Field_measures_1 : T i_field_Field_measures_1 = some f_field_Field_measures_1 := rfl
theorem T_field_Field_measure : T i_field_Field_measure = some f_field_Field_measure := rfl
theorem T_field_scale_of : T i_field_scale_of = some f_field_scale_of := rfl
theorem T_rock_Yield_warmth : T i_rock_Yield_warmth = some f_rock_Yield_warmth := rfl
theorem T_slices_ContainsFunc_rock_Bore : T i_slices_ContainsFunc_rock_Bore = some f_slices_ContainsFunc_rock_Bore := rfl
theorem T_rock_all_rock_Bore_1 : T i_rock_all_rock_Bore_1 = some f_rock_all_rock_Bore_1 := rfl
theorem T_slices_IndexFunc_field_Model : T i_slices_IndexFunc_field_Model = some f_slices_IndexFunc_field_Model := rfl
theorem T_slices_ContainsFunc_int : T i_slices_ContainsFunc_int = some f_slices_ContainsFunc_int := rfl
theorem T_rock_all_int_1 : T i_rock_all_int_1 = some f_rock_all_int_1 := rfl
theorem T_rock_bedded_pressures : T i_rock_bedded_pressures = some f_rock_bedded_pressures := rfl
theorem T_rock_Bed_links : T i_rock_Bed_links = some f_rock_Bed_links := rfl
theorem T_rock_bedded_open : T i_rock_bedded_open = some f_rock_bedded_open := rfl
theorem T_rock_bedded_feed : T i_rock_bedded_feed = some f_rock_bedded_feed := rfl
theorem T_rock_all_rock_Block : T i_rock_all_rock_Block = some f_rock_all_rock_Block := rfl
theorem T_rock_Block_valid : T i_rock_Block_valid = some f_rock_Block_valid := rfl
theorem T_slices_IndexFunc_steam_Row : T i_slices_IndexFunc_steam_Row = some f_slices_IndexFunc_steam_Row := rfl
theorem T_field_named : T i_field_named = some f_field_named := rfl
theorem T_field_all_int : T i_field_all_int = some f_field_all_int := rfl
theorem T_field_Field_model_1 : T i_field_Field_model_1 = some f_field_Field_model_1 := rfl
theorem T_field_Field_sums : T i_field_Field_sums = some f_field_Field_sums := rfl
theorem T_field_Range_ends : T i_field_Range_ends = some f_field_Range_ends := rfl
theorem T_slices_IndexFunc_rock_Bore : T i_slices_IndexFunc_rock_Bore = some f_slices_IndexFunc_rock_Bore := rfl
theorem T_rock_Bed_links_1 : T i_rock_Bed_links_1 = some f_rock_Bed_links_1 := rfl
theorem T_slices_ContainsFunc_rock_Block : T i_slices_ContainsFunc_rock_Block = some f_slices_ContainsFunc_rock_Block := rfl
theorem T_rock_all_rock_Block_1 : T i_rock_all_rock_Block_1 = some f_rock_all_rock_Block_1 := rfl
theorem T_field_all_int_1 : T i_field_all_int_1 = some f_field_all_int_1 := rfl
theorem T_slices_IndexFunc_rock_Block : T i_slices_IndexFunc_rock_Block = some f_slices_IndexFunc_rock_Block := rfl
theorem mixed : Tryz.prog.follows .mixedOrders = true := by kernel_rfl
def FOk (f : Nat) (fn : Abs.Fn) : Prop := if f < 1000000 then FnOk Tryz.prog f fn else fn.body = .exit 0 ∧ NatOk Tryz.prog fn.npar (f - 1000000)
theorem fok {f : Nat} {fn : Abs.Fn} (h : f < 1000000) (h' : FnOk Tryz.prog f fn) : FOk f fn := by unfold FOk; rw [if_pos h]; exact h'
theorem F_top_TopEither : FOk i_top_TopEither f_top_TopEither := fok (by decide) ⟨Tryz.f4, _, a_top_TopEither, Tryz.func4, by decide, rfl, ok_top_TopEither⟩
theorem F_top_run : FOk i_top_run f_top_run := fok (by decide) ⟨Tryz.f6, _, a_top_run, Tryz.func6, by decide, rfl, ok_top_run⟩
theorem F_top_still : FOk i_top_still f_top_still := fok (by decide) ⟨Tryz.f7, _, a_top_still, Tryz.func7, by decide, rfl, ok_top_still⟩
theorem F_law05_Bed : FOk i_law05_Bed f_law05_Bed := fok (by decide) ⟨Tryz.f8, _, a_law05_Bed, Tryz.func8, by decide, rfl, ok_law05_Bed⟩
theorem F_law02_Models : FOk i_law02_Models f_law02_Models := fok (by decide) ⟨Tryz.f9, _, a_law02_Models, Tryz.func9, by decide, rfl, ok_law02_Models⟩
theorem F_law05_Plan : FOk i_law05_Plan f_law05_Plan := fok (by decide) ⟨Tryz.f11, _, a_law05_Plan, Tryz.func11, by decide, rfl, ok_law05_Plan⟩
theorem F_rock_Play : FOk i_rock_Play f_rock_Play := fok (by decide) ⟨Tryz.f12, _, a_rock_Play, Tryz.func12, by decide, rfl, ok_rock_Play⟩
theorem F_ref02_MeasuresFault : FOk i_ref02_MeasuresFault f_ref02_MeasuresFault := fok (by decide) ⟨Tryz.f15, _, a_ref02_MeasuresFault, Tryz.func15, by decide, rfl, ok_ref02_MeasuresFault⟩
theorem F_ref05_ReadingsFault : FOk i_ref05_ReadingsFault f_ref05_ReadingsFault := fok (by decide) ⟨Tryz.f16, _, a_ref05_ReadingsFault, Tryz.func16, by decide, rfl, ok_ref05_ReadingsFault⟩
theorem F_law02_Field : FOk i_law02_Field f_law02_Field := fok (by decide) ⟨Tryz.f17, _, a_law02_Field, Tryz.func17, by decide, rfl, ok_law02_Field⟩
theorem F_field_Strikes : FOk i_field_Strikes f_field_Strikes := fok (by decide) ⟨Tryz.f18, _, a_field_Strikes, Tryz.func18, by decide, rfl, ok_field_Strikes⟩
theorem F_law02_Measures : FOk i_law02_Measures f_law02_Measures := fok (by decide) ⟨Tryz.f19, _, a_law02_Measures, Tryz.func19, by decide, rfl, ok_law02_Measures⟩
theorem F_rock_Strikes : FOk i_rock_Strikes f_rock_Strikes := fok (by decide) ⟨Tryz.f20, _, a_rock_Strikes, Tryz.func20, by decide, rfl, ok_rock_Strikes⟩
theorem F_law05_Readings : FOk i_law05_Readings f_law05_Readings := fok (by decide) ⟨Tryz.f21, _, a_law05_Readings, Tryz.func21, by decide, rfl, ok_law05_Readings⟩
theorem F_top_some : FOk i_top_some f_top_some := fok (by decide) ⟨Tryz.f22, _, a_top_some, Tryz.func22, by decide, rfl, ok_top_some⟩
theorem F_law02_Model : FOk i_law02_Model f_law02_Model := fok (by decide) ⟨Tryz.f29, _, a_law02_Model, Tryz.func29, by decide, rfl, ok_law02_Model⟩
theorem F_ref05_Right : FOk i_ref05_Right f_ref05_Right := fok (by decide) ⟨Tryz.f30, _, a_ref05_Right, Tryz.func30, by decide, rfl, ok_ref05_Right⟩
theorem F_ref05_ModelsFault : FOk i_ref05_ModelsFault f_ref05_ModelsFault := fok (by decide) ⟨Tryz.f31, _, a_ref05_ModelsFault, Tryz.func31, by decide, rfl, ok_ref05_ModelsFault⟩
theorem F_ref05_PlanFault : FOk i_ref05_PlanFault f_ref05_PlanFault := fok (by decide) ⟨Tryz.f32, _, a_ref05_PlanFault, Tryz.func32, by decide, rfl, ok_ref05_PlanFault⟩
theorem F_law01_Three : FOk i_law01_Three f_law01_Three := fok (by decide) ⟨Tryz.f33, _, a_law01_Three, Tryz.func33, by decide, rfl, ok_law01_Three⟩
theorem F_law01_Table : FOk i_law01_Table f_law01_Table := fok (by decide) ⟨Tryz.f34, _, a_law01_Table, Tryz.func34, by decide, rfl, ok_law01_Table⟩
theorem F_rock_ready : FOk i_rock_ready f_rock_ready := fok (by decide) ⟨Tryz.f35, _, a_rock_ready, Tryz.func35, by decide, rfl, ok_rock_ready⟩
theorem F_rock_caught : FOk i_rock_caught f_rock_caught := fok (by decide) ⟨Tryz.f36, _, a_rock_caught, Tryz.func36, by decide, rfl, ok_rock_caught⟩
theorem F_rock_runs : FOk i_rock_runs f_rock_runs := fok (by decide) ⟨Tryz.f37, _, a_rock_runs, Tryz.func37, by decide, rfl, ok_rock_runs⟩
theorem F_rock_Yield_mass : FOk i_rock_Yield_mass f_rock_Yield_mass := fok (by decide) ⟨Tryz.f39, _, a_rock_Yield_mass, Tryz.func39, by decide, rfl, ok_rock_Yield_mass⟩
theorem F_rock_Yield_stain : FOk i_rock_Yield_stain f_rock_Yield_stain := fok (by decide) ⟨Tryz.f41, _, a_rock_Yield_stain, Tryz.func41, by decide, rfl, ok_rock_Yield_stain⟩
theorem F_rock_Bed_size : FOk i_rock_Bed_size f_rock_Bed_size := fok (by decide) ⟨Tryz.f42, _, a_rock_Bed_size, Tryz.func42, by decide, rfl, ok_rock_Bed_size⟩
theorem F_rock_bedded_pressure : FOk i_rock_bedded_pressure f_rock_bedded_pressure := fok (by decide) ⟨Tryz.f43, _, a_rock_bedded_pressure, Tryz.func43, by decide, rfl, ok_rock_bedded_pressure⟩
theorem F_rock_bed : FOk i_rock_bed f_rock_bed := fok (by decide) ⟨Tryz.f46, _, a_rock_bed, Tryz.func46, by decide, rfl, ok_rock_bed⟩
theorem F_rock_Bed_plan : FOk i_rock_Bed_plan f_rock_Bed_plan := fok (by decide) ⟨Tryz.f47, _, a_rock_Bed_plan, Tryz.func47, by decide, rfl, ok_rock_Bed_plan⟩
theorem F_rock_bedded_run : FOk i_rock_bedded_run f_rock_bedded_run := fok (by decide) ⟨Tryz.f48, _, a_rock_bedded_run, Tryz.func48, by decide, rfl, ok_rock_bedded_run⟩
theorem F_steam_Table_valid : FOk i_steam_Table_valid f_steam_Table_valid := fok (by decide) ⟨Tryz.f49, _, a_steam_Table_valid, Tryz.func49, by decide, rfl, ok_steam_Table_valid⟩
theorem F_steam_within : FOk i_steam_within f_steam_within := fok (by decide) ⟨Tryz.f51, _, a_steam_within, Tryz.func51, by decide, rfl, ok_steam_within⟩
theorem F_ref02_MeasureFault : FOk i_ref02_MeasureFault f_ref02_MeasureFault := fok (by decide) ⟨Tryz.f56, _, a_ref02_MeasureFault, Tryz.func56, by decide, rfl, ok_ref02_MeasureFault⟩
theorem F_ref01_In : FOk i_ref01_In f_ref01_In := fok (by decide) ⟨Tryz.f57, _, a_ref01_In, Tryz.func57, by decide, rfl, ok_ref01_In⟩
theorem F_ref02_Size : FOk i_ref02_Size f_ref02_Size := fok (by decide) ⟨Tryz.f58, _, a_ref02_Size, Tryz.func58, by decide, rfl, ok_ref02_Size⟩
theorem F_field_both : FOk i_field_both f_field_both := fok (by decide) ⟨Tryz.f59, _, a_field_both, Tryz.func59, by decide, rfl, ok_field_both⟩
theorem F_field_Field_misses : FOk i_field_Field_misses f_field_Field_misses := fok (by decide) ⟨Tryz.f60, _, a_field_Field_misses, Tryz.func60, by decide, rfl, ok_field_Field_misses⟩
theorem F_slices_IndexFunc_int : FOk i_slices_IndexFunc_int f_slices_IndexFunc_int := fok (by decide) ⟨Tryz.f61, _, a_slices_IndexFunc_int, Tryz.func61, by decide, rfl, ok_slices_IndexFunc_int⟩
theorem F_field_Strikes_1 : FOk i_field_Strikes_1 f_field_Strikes_1 := fok (by decide) ⟨Tryz.f62, _, a_field_Strikes_1, Tryz.func62, by decide, rfl, ok_field_Strikes_1⟩
theorem F_law02_Measure : FOk i_law02_Measure f_law02_Measure := fok (by decide) ⟨Tryz.f63, _, a_law02_Measure, Tryz.func63, by decide, rfl, ok_law02_Measure⟩
theorem F_rock_Bed_reading : FOk i_rock_Bed_reading f_rock_Bed_reading := fok (by decide) ⟨Tryz.f64, _, a_rock_Bed_reading, Tryz.func64, by decide, rfl, ok_rock_Bed_reading⟩
theorem F_rock_Range_miss : FOk i_rock_Range_miss f_rock_Range_miss := fok (by decide) ⟨Tryz.f65, _, a_rock_Range_miss, Tryz.func65, by decide, rfl, ok_rock_Range_miss⟩
theorem F_rock_bedded_value : FOk i_rock_bedded_value f_rock_bedded_value := fok (by decide) ⟨Tryz.f66, _, a_rock_bedded_value, Tryz.func66, by decide, rfl, ok_rock_bedded_value⟩
theorem F_rock_within : FOk i_rock_within f_rock_within := fok (by decide) ⟨Tryz.f76, _, a_rock_within, Tryz.func76, by decide, rfl, ok_rock_within⟩
theorem F_ref02_Right : FOk i_ref02_Right f_ref02_Right := fok (by decide) ⟨Tryz.f79, _, a_ref02_Right, Tryz.func79, by decide, rfl, ok_ref02_Right⟩
theorem F_ref01_Right : FOk i_ref01_Right f_ref01_Right := fok (by decide) ⟨Tryz.f80, _, a_ref01_Right, Tryz.func80, by decide, rfl, ok_ref01_Right⟩
theorem F_ref02_ModelsFault : FOk i_ref02_ModelsFault f_ref02_ModelsFault := fok (by decide) ⟨Tryz.f81, _, a_ref02_ModelsFault, Tryz.func81, by decide, rfl, ok_ref02_ModelsFault⟩
theorem F_ref05_Fits : FOk i_ref05_Fits f_ref05_Fits := fok (by decide) ⟨Tryz.f82, _, a_ref05_Fits, Tryz.func82, by decide, rfl, ok_ref05_Fits⟩
theorem F_ref05_RatesFault : FOk i_ref05_RatesFault f_ref05_RatesFault := fok (by decide) ⟨Tryz.f83, _, a_ref05_RatesFault, Tryz.func83, by decide, rfl, ok_ref05_RatesFault⟩
theorem F_rock_Bed_valid : FOk i_rock_Bed_valid f_rock_Bed_valid := fok (by decide) ⟨Tryz.f84, _, a_rock_Bed_valid, Tryz.func84, by decide, rfl, ok_rock_Bed_valid⟩
theorem F_field_CheckModels : FOk i_field_CheckModels f_field_CheckModels := fok (by decide) ⟨Tryz.f85, _, a_field_CheckModels, Tryz.func85, by decide, rfl, ok_field_CheckModels⟩
theorem F_rock_all_field_Model : FOk i_rock_all_field_Model f_rock_all_field_Model := fok (by decide) ⟨Tryz.f86, _, a_rock_all_field_Model, Tryz.func86, by decide, rfl, ok_rock_all_field_Model⟩
theorem F_rock_ready_1 : FOk i_rock_ready_1 f_rock_ready_1 := fok (by decide) ⟨Tryz.f87, _, a_rock_ready_1, Tryz.func87, by decide, rfl, ok_rock_ready_1⟩
theorem F_rock_bedded_fits : FOk i_rock_bedded_fits f_rock_bedded_fits := fok (by decide) ⟨Tryz.f88, _, a_rock_bedded_fits, Tryz.func88, by decide, rfl, ok_rock_bedded_fits⟩
theorem F_rock_bedded_weight : FOk i_rock_bedded_weight f_rock_bedded_weight := fok (by decide) ⟨Tryz.f89, _, a_rock_bedded_weight, Tryz.func89, by decide, rfl, ok_rock_bedded_weight⟩
theorem F_rock_down : FOk i_rock_down f_rock_down := fok (by decide) ⟨Tryz.f90, _, a_rock_down, Tryz.func90, by decide, rfl, ok_rock_down⟩
theorem F_rock_bedded_hold : FOk i_rock_bedded_hold f_rock_bedded_hold := fok (by decide) ⟨Tryz.f91, _, a_rock_bedded_hold, Tryz.func91, by decide, rfl, ok_rock_bedded_hold⟩
theorem F_rock_Bed_rates : FOk i_rock_Bed_rates f_rock_Bed_rates := fok (by decide) ⟨Tryz.f92, _, a_rock_Bed_rates, Tryz.func92, by decide, rfl, ok_rock_Bed_rates⟩
theorem F_rock_bedded_first : FOk i_rock_bedded_first f_rock_bedded_first := fok (by decide) ⟨Tryz.f93, _, a_rock_bedded_first, Tryz.func93, by decide, rfl, ok_rock_bedded_first⟩
theorem F_rock_bedded_tick : FOk i_rock_bedded_tick f_rock_bedded_tick := fok (by decide) ⟨Tryz.f94, _, a_rock_bedded_tick, Tryz.func94, by decide, rfl, ok_rock_bedded_tick⟩
theorem F_steam_all_steam_Row : FOk i_steam_all_steam_Row f_steam_all_steam_Row := fok (by decide) ⟨Tryz.f95, _, a_steam_all_steam_Row, Tryz.func95, by decide, rfl, ok_steam_all_steam_Row⟩
theorem F_steam_Row_alone : FOk i_steam_Row_alone f_steam_Row_alone := fok (by decide) ⟨Tryz.f96, _, a_steam_Row_alone, Tryz.func96, by decide, rfl, ok_steam_Row_alone⟩
theorem F_ref02_Name : FOk i_ref02_Name f_ref02_Name := fok (by decide) ⟨Tryz.f98, _, a_ref02_Name, Tryz.func98, by decide, rfl, ok_ref02_Name⟩
theorem F_ref02_sums : FOk i_ref02_sums f_ref02_sums := fok (by decide) ⟨Tryz.f99, _, a_ref02_sums, Tryz.func99, by decide, rfl, ok_ref02_sums⟩
theorem F_ref02_Ends : FOk i_ref02_Ends f_ref02_Ends := fok (by decide) ⟨Tryz.f100, _, a_ref02_Ends, Tryz.func100, by decide, rfl, ok_ref02_Ends⟩
theorem F_field_first : FOk i_field_first f_field_first := fok (by decide) ⟨Tryz.f101, _, a_field_first, Tryz.func101, by decide, rfl, ok_field_first⟩
theorem F_field_Field_shape : FOk i_field_Field_shape f_field_Field_shape := fok (by decide) ⟨Tryz.f102, _, a_field_Field_shape, Tryz.func102, by decide, rfl, ok_field_Field_shape⟩
theorem F_field_both_1 : FOk i_field_both_1 f_field_both_1 := fok (by decide) ⟨Tryz.f103, _, a_field_both_1, Tryz.func103, by decide, rfl, ok_field_both_1⟩
theorem F_field_Field_models : FOk i_field_Field_models f_field_Field_models := fok (by decide) ⟨Tryz.f104, _, a_field_Field_models, Tryz.func104, by decide, rfl, ok_field_Field_models⟩
theorem F_field_both_2 : FOk i_field_both_2 f_field_both_2 := fok (by decide) ⟨Tryz.f105, _, a_field_both_2, Tryz.func105, by decide, rfl, ok_field_both_2⟩
theorem F_field_Field_measures : FOk i_field_Field_measures f_field_Field_measures := fok (by decide) ⟨Tryz.f106, _, a_field_Field_measures, Tryz.func106, by decide, rfl, ok_field_Field_measures⟩
theorem F_field_Range_miss : FOk i_field_Range_miss f_field_Range_miss := fok (by decide) ⟨Tryz.f107, _, a_field_Range_miss, Tryz.func107, by decide, rfl, ok_field_Range_miss⟩
theorem F_field_Field_weighs : FOk i_field_Field_weighs f_field_Field_weighs := fok (by decide) ⟨Tryz.f108, _, a_field_Field_weighs, Tryz.func108, by decide, rfl, ok_field_Field_weighs⟩
theorem F_law02_Range : FOk i_law02_Range f_law02_Range := fok (by decide) ⟨Tryz.f109, _, a_law02_Range, Tryz.func109, by decide, rfl, ok_law02_Range⟩
theorem F_rock_tells : FOk i_rock_tells f_rock_tells := fok (by decide) ⟨Tryz.f110, _, a_rock_tells, Tryz.func110, by decide, rfl, ok_rock_tells⟩
theorem F_field_Field_valid : FOk i_field_Field_valid f_field_Field_valid := fok (by decide) ⟨Tryz.f111, _, a_field_Field_valid, Tryz.func111, by decide, rfl, ok_field_Field_valid⟩
theorem F_field_within : FOk i_field_within f_field_within := fok (by decide) ⟨Tryz.f112, _, a_field_within, Tryz.func112, by decide, rfl, ok_field_within⟩
theorem F_field_Field_blocks : FOk i_field_Field_blocks f_field_Field_blocks := fok (by decide) ⟨Tryz.f113, _, a_field_Field_blocks, Tryz.func113, by decide, rfl, ok_field_Field_blocks⟩
theorem F_ref02_In : FOk i_ref02_In f_ref02_In := fok (by decide) ⟨Tryz.f122, _, a_ref02_In, Tryz.func122, by decide, rfl, ok_ref02_In⟩
theorem F_ref02_ModelFault : FOk i_ref02_ModelFault f_ref02_ModelFault := fok (by decide) ⟨Tryz.f123, _, a_ref02_ModelFault, Tryz.func123, by decide, rfl, ok_ref02_ModelFault⟩
theorem F_ref05_Value : FOk i_ref05_Value f_ref05_Value := fok (by decide) ⟨Tryz.f124, _, a_ref05_Value, Tryz.func124, by decide, rfl, ok_ref05_Value⟩
theorem F_field_CheckField : FOk i_field_CheckField f_field_CheckField := fok (by decide) ⟨Tryz.f125, _, a_field_CheckField, Tryz.func125, by decide, rfl, ok_field_CheckField⟩
theorem F_steam_CheckTable : FOk i_steam_CheckTable f_steam_CheckTable := fok (by decide) ⟨Tryz.f126, _, a_steam_CheckTable, Tryz.func126, by decide, rfl, ok_steam_CheckTable⟩
theorem F_rock_all_rock_Bore : FOk i_rock_all_rock_Bore f_rock_all_rock_Bore := fok (by decide) ⟨Tryz.f127, _, a_rock_all_rock_Bore, Tryz.func127, by decide, rfl, ok_rock_all_rock_Bore⟩
theorem F_rock_Bed_valid_1 : FOk i_rock_Bed_valid_1 f_rock_Bed_valid_1 := fok (by decide) ⟨Tryz.f128, _, a_rock_Bed_valid_1, Tryz.func128, by decide, rfl, ok_rock_Bed_valid_1⟩
theorem F_field_CheckModels_1 : FOk i_field_CheckModels_1 f_field_CheckModels_1 := fok (by decide) ⟨Tryz.f129, _, a_field_CheckModels_1, Tryz.func129, by decide, rfl, ok_field_CheckModels_1⟩
theorem F_slices_ContainsFunc_field_Model : FOk i_slices_ContainsFunc_field_Model f_slices_ContainsFunc_field_Model := fok (by decide) ⟨Tryz.f130, _, a_slices_ContainsFunc_field_Model, Tryz.func130, by decide, rfl, ok_slices_ContainsFunc_field_Model⟩
theorem F_rock_all_field_Model_1 : FOk i_rock_all_field_Model_1 f_rock_all_field_Model_1 := fok (by decide) ⟨Tryz.f131, _, a_rock_all_field_Model_1, Tryz.func131, by decide, rfl, ok_rock_all_field_Model_1⟩
theorem F_rock_all_int : FOk i_rock_all_int f_rock_all_int := fok (by decide) ⟨Tryz.f132, _, a_rock_all_int, Tryz.func132, by decide, rfl, ok_rock_all_int⟩
theorem F_rock_bedded_kind : FOk i_rock_bedded_kind f_rock_bedded_kind := fok (by decide) ⟨Tryz.f133, _, a_rock_bedded_kind, Tryz.func133, by decide, rfl, ok_rock_bedded_kind⟩
theorem F_rock_bedded_fits_1 : FOk i_rock_bedded_fits_1 f_rock_bedded_fits_1 := fok (by decide) ⟨Tryz.f134, _, a_rock_bedded_fits_1, Tryz.func134, by decide, rfl, ok_rock_bedded_fits_1⟩
theorem F_rock_Bed_rates_1 : FOk i_rock_Bed_rates_1 f_rock_Bed_rates_1 := fok (by decide) ⟨Tryz.f135, _, a_rock_Bed_rates_1, Tryz.func135, by decide, rfl, ok_rock_Bed_rates_1⟩
theorem F_rock_bedded_warm : FOk i_rock_bedded_warm f_rock_bedded_warm := fok (by decide) ⟨Tryz.f136, _, a_rock_bedded_warm, Tryz.func136, by decide, rfl, ok_rock_bedded_warm⟩
theorem F_slices_Clone_rock_State_rock_Block : FOk i_slices_Clone_rock_State_rock_Block f_slices_Clone_rock_State_rock_Block := fok (by decide) ⟨Tryz.f137, _, a_slices_Clone_rock_State_rock_Block, Tryz.func137, by decide, rfl, ok_slices_Clone_rock_State_rock_Block⟩
theorem F_rock_bedded_flows : FOk i_rock_bedded_flows f_rock_bedded_flows := fok (by decide) ⟨Tryz.f138, _, a_rock_bedded_flows, Tryz.func138, by decide, rfl, ok_rock_bedded_flows⟩
theorem F_rock_Block_move : FOk i_rock_Block_move f_rock_Block_move := fok (by decide) ⟨Tryz.f139, _, a_rock_Block_move, Tryz.func139, by decide, rfl, ok_rock_Block_move⟩
theorem F_rock_Bore_given : FOk i_rock_Bore_given f_rock_Bore_given := fok (by decide) ⟨Tryz.f140, _, a_rock_Bore_given, Tryz.func140, by decide, rfl, ok_rock_Bore_given⟩
theorem F_rock_Block_out : FOk i_rock_Block_out f_rock_Block_out := fok (by decide) ⟨Tryz.f141, _, a_rock_Block_out, Tryz.func141, by decide, rfl, ok_rock_Block_out⟩
theorem F_rock_bedded_fed : FOk i_rock_bedded_fed f_rock_bedded_fed := fok (by decide) ⟨Tryz.f142, _, a_rock_bedded_fed, Tryz.func142, by decide, rfl, ok_rock_bedded_fed⟩
theorem F_rock_bedded_state : FOk i_rock_bedded_state f_rock_bedded_state := fok (by decide) ⟨Tryz.f143, _, a_rock_bedded_state, Tryz.func143, by decide, rfl, ok_rock_bedded_state⟩
theorem F_slices_ContainsFunc_steam_Row : FOk i_slices_ContainsFunc_steam_Row f_slices_ContainsFunc_steam_Row := fok (by decide) ⟨Tryz.f144, _, a_slices_ContainsFunc_steam_Row, Tryz.func144, by decide, rfl, ok_slices_ContainsFunc_steam_Row⟩
theorem F_steam_all_steam_Row_1 : FOk i_steam_all_steam_Row_1 f_steam_all_steam_Row_1 := fok (by decide) ⟨Tryz.f145, _, a_steam_all_steam_Row_1, Tryz.func145, by decide, rfl, ok_steam_all_steam_Row_1⟩
theorem F_field_each_field_Model : FOk i_field_each_field_Model f_field_each_field_Model := fok (by decide) ⟨Tryz.f146, _, a_field_each_field_Model, Tryz.func146, by decide, rfl, ok_field_each_field_Model⟩
theorem F_field_Field_models_1 : FOk i_field_Field_models_1 f_field_Field_models_1 := fok (by decide) ⟨Tryz.f147, _, a_field_Field_models_1, Tryz.func147, by decide, rfl, ok_field_Field_models_1⟩
theorem F_field_Field_model : FOk i_field_Field_model f_field_Field_model := fok (by decide) ⟨Tryz.f148, _, a_field_Field_model, Tryz.func148, by decide, rfl, ok_field_Field_model⟩
theorem F_field_each_field_Measure : FOk i_field_each_field_Measure f_field_each_field_Measure := fok (by decide) ⟨Tryz.f149, _, a_field_each_field_Measure, Tryz.func149, by decide, rfl, ok_field_each_field_Measure⟩
theorem F_field_Field_measures_1 : FOk i_field_Field_measures_1 f_field_Field_measures_1 := fok (by decide) ⟨Tryz.f150, _, a_field_Field_measures_1, Tryz.func150, by decide, rfl, ok_field_Field_measures_1⟩
theorem F_field_Field_measure : FOk i_field_Field_measure f_field_Field_measure := fok (by decide) ⟨Tryz.f151, _, a_field_Field_measure, Tryz.func151, by decide, rfl, ok_field_Field_measure⟩
theorem F_field_scale_of : FOk i_field_scale_of f_field_scale_of := fok (by decide) ⟨Tryz.f152, _, a_field_scale_of, Tryz.func152, by decide, rfl, ok_field_scale_of⟩
theorem F_rock_Yield_warmth : FOk i_rock_Yield_warmth f_rock_Yield_warmth := fok (by decide) ⟨Tryz.f153, _, a_rock_Yield_warmth, Tryz.func153, by decide, rfl, ok_rock_Yield_warmth⟩
theorem F_slices_ContainsFunc_rock_Bore : FOk i_slices_ContainsFunc_rock_Bore f_slices_ContainsFunc_rock_Bore := fok (by decide) ⟨Tryz.f156, _, a_slices_ContainsFunc_rock_Bore, Tryz.func156, by decide, rfl, ok_slices_ContainsFunc_rock_Bore⟩
theorem F_rock_all_rock_Bore_1 : FOk i_rock_all_rock_Bore_1 f_rock_all_rock_Bore_1 := fok (by decide) ⟨Tryz.f157, _, a_rock_all_rock_Bore_1, Tryz.func157, by decide, rfl, ok_rock_all_rock_Bore_1⟩
theorem F_slices_IndexFunc_field_Model : FOk i_slices_IndexFunc_field_Model f_slices_IndexFunc_field_Model := fok (by decide) ⟨Tryz.f158, _, a_slices_IndexFunc_field_Model, Tryz.func158, by decide, rfl, ok_slices_IndexFunc_field_Model⟩
theorem F_slices_ContainsFunc_int : FOk i_slices_ContainsFunc_int f_slices_ContainsFunc_int := fok (by decide) ⟨Tryz.f159, _, a_slices_ContainsFunc_int, Tryz.func159, by decide, rfl, ok_slices_ContainsFunc_int⟩
theorem F_rock_all_int_1 : FOk i_rock_all_int_1 f_rock_all_int_1 := fok (by decide) ⟨Tryz.f160, _, a_rock_all_int_1, Tryz.func160, by decide, rfl, ok_rock_all_int_1⟩
theorem F_rock_bedded_pressures : FOk i_rock_bedded_pressures f_rock_bedded_pressures := fok (by decide) ⟨Tryz.f161, _, a_rock_bedded_pressures, Tryz.func161, by decide, rfl, ok_rock_bedded_pressures⟩
theorem F_rock_Bed_links : FOk i_rock_Bed_links f_rock_Bed_links := fok (by decide) ⟨Tryz.f162, _, a_rock_Bed_links, Tryz.func162, by decide, rfl, ok_rock_Bed_links⟩
theorem F_rock_bedded_open : FOk i_rock_bedded_open f_rock_bedded_open := fok (by decide) ⟨Tryz.f163, _, a_rock_bedded_open, Tryz.func163, by decide, rfl, ok_rock_bedded_open⟩
theorem F_rock_bedded_feed : FOk i_rock_bedded_feed f_rock_bedded_feed := fok (by decide) ⟨Tryz.f164, _, a_rock_bedded_feed, Tryz.func164, by decide, rfl, ok_rock_bedded_feed⟩
theorem F_rock_all_rock_Block : FOk i_rock_all_rock_Block f_rock_all_rock_Block := fok (by decide) ⟨Tryz.f165, _, a_rock_all_rock_Block, Tryz.func165, by decide, rfl, ok_rock_all_rock_Block⟩
theorem F_rock_Block_valid : FOk i_rock_Block_valid f_rock_Block_valid := fok (by decide) ⟨Tryz.f166, _, a_rock_Block_valid, Tryz.func166, by decide, rfl, ok_rock_Block_valid⟩
theorem F_slices_IndexFunc_steam_Row : FOk i_slices_IndexFunc_steam_Row f_slices_IndexFunc_steam_Row := fok (by decide) ⟨Tryz.f167, _, a_slices_IndexFunc_steam_Row, Tryz.func167, by decide, rfl, ok_slices_IndexFunc_steam_Row⟩
theorem F_field_named : FOk i_field_named f_field_named := fok (by decide) ⟨Tryz.f168, _, a_field_named, Tryz.func168, by decide, rfl, ok_field_named⟩
theorem F_field_all_int : FOk i_field_all_int f_field_all_int := fok (by decide) ⟨Tryz.f169, _, a_field_all_int, Tryz.func169, by decide, rfl, ok_field_all_int⟩
theorem F_field_Field_model_1 : FOk i_field_Field_model_1 f_field_Field_model_1 := fok (by decide) ⟨Tryz.f170, _, a_field_Field_model_1, Tryz.func170, by decide, rfl, ok_field_Field_model_1⟩
theorem F_field_Field_sums : FOk i_field_Field_sums f_field_Field_sums := fok (by decide) ⟨Tryz.f171, _, a_field_Field_sums, Tryz.func171, by decide, rfl, ok_field_Field_sums⟩
theorem F_field_Range_ends : FOk i_field_Range_ends f_field_Range_ends := fok (by decide) ⟨Tryz.f172, _, a_field_Range_ends, Tryz.func172, by decide, rfl, ok_field_Range_ends⟩
theorem F_slices_IndexFunc_rock_Bore : FOk i_slices_IndexFunc_rock_Bore f_slices_IndexFunc_rock_Bore := fok (by decide) ⟨Tryz.f174, _, a_slices_IndexFunc_rock_Bore, Tryz.func174, by decide, rfl, ok_slices_IndexFunc_rock_Bore⟩
theorem F_rock_Bed_links_1 : FOk i_rock_Bed_links_1 f_rock_Bed_links_1 := fok (by decide) ⟨Tryz.f175, _, a_rock_Bed_links_1, Tryz.func175, by decide, rfl, ok_rock_Bed_links_1⟩
theorem F_slices_ContainsFunc_rock_Block : FOk i_slices_ContainsFunc_rock_Block f_slices_ContainsFunc_rock_Block := fok (by decide) ⟨Tryz.f176, _, a_slices_ContainsFunc_rock_Block, Tryz.func176, by decide, rfl, ok_slices_ContainsFunc_rock_Block⟩
theorem F_rock_all_rock_Block_1 : FOk i_rock_all_rock_Block_1 f_rock_all_rock_Block_1 := fok (by decide) ⟨Tryz.f177, _, a_rock_all_rock_Block_1, Tryz.func177, by decide, rfl, ok_rock_all_rock_Block_1⟩
theorem F_field_all_int_1 : FOk i_field_all_int_1 f_field_all_int_1 := fok (by decide) ⟨Tryz.f178, _, a_field_all_int_1, Tryz.func178, by decide, rfl, ok_field_all_int_1⟩
theorem F_slices_IndexFunc_rock_Block : FOk i_slices_IndexFunc_rock_Block f_slices_IndexFunc_rock_Block := fok (by decide) ⟨Tryz.f179, _, a_slices_IndexFunc_rock_Block, Tryz.func179, by decide, rfl, ok_slices_IndexFunc_rock_Block⟩
theorem FAll : ∀ p ∈ tbl, FOk p.1 p.2 := by
  simp only [tbl, List.forall_mem_cons]
  exact ⟨F_top_TopEither, F_top_run, F_top_still, F_law05_Bed, F_law02_Models, F_law05_Plan, F_rock_Play, F_ref02_MeasuresFault, F_ref05_ReadingsFault, F_law02_Field, F_field_Strikes, F_law02_Measures, F_rock_Strikes, F_law05_Readings, F_top_some, F_law02_Model, F_ref05_Right, F_ref05_ModelsFault, F_ref05_PlanFault, F_law01_Three, F_law01_Table, F_rock_ready, F_rock_caught, F_rock_runs, F_rock_Yield_mass, F_rock_Yield_stain, F_rock_Bed_size, F_rock_bedded_pressure, F_rock_bed, F_rock_Bed_plan, F_rock_bedded_run, F_steam_Table_valid, F_steam_within, F_ref02_MeasureFault, F_ref01_In, F_ref02_Size, F_field_both, F_field_Field_misses, F_slices_IndexFunc_int, F_field_Strikes_1, F_law02_Measure, F_rock_Bed_reading, F_rock_Range_miss, F_rock_bedded_value, F_rock_within, F_ref02_Right, F_ref01_Right, F_ref02_ModelsFault, F_ref05_Fits, F_ref05_RatesFault, F_rock_Bed_valid, F_field_CheckModels, F_rock_all_field_Model, F_rock_ready_1, F_rock_bedded_fits, F_rock_bedded_weight, F_rock_down, F_rock_bedded_hold, F_rock_Bed_rates, F_rock_bedded_first, F_rock_bedded_tick, F_steam_all_steam_Row, F_steam_Row_alone, F_ref02_Name, F_ref02_sums, F_ref02_Ends, F_field_first, F_field_Field_shape, F_field_both_1, F_field_Field_models, F_field_both_2, F_field_Field_measures, F_field_Range_miss, F_field_Field_weighs, F_law02_Range, F_rock_tells, F_field_Field_valid, F_field_within, F_field_Field_blocks, F_ref02_In, F_ref02_ModelFault, F_ref05_Value, F_field_CheckField, F_steam_CheckTable, F_rock_all_rock_Bore, F_rock_Bed_valid_1, F_field_CheckModels_1, F_slices_ContainsFunc_field_Model, F_rock_all_field_Model_1, F_rock_all_int, F_rock_bedded_kind, F_rock_bedded_fits_1, F_rock_Bed_rates_1, F_rock_bedded_warm, F_slices_Clone_rock_State_rock_Block, F_rock_bedded_flows, F_rock_Block_move, F_rock_Bore_given, F_rock_Block_out, F_rock_bedded_fed, F_rock_bedded_state, F_slices_ContainsFunc_steam_Row, F_steam_all_steam_Row_1, F_field_each_field_Model, F_field_Field_models_1, F_field_Field_model, F_field_each_field_Measure, F_field_Field_measures_1, F_field_Field_measure, F_field_scale_of, F_rock_Yield_warmth, F_slices_ContainsFunc_rock_Bore, F_rock_all_rock_Bore_1, F_slices_IndexFunc_field_Model, F_slices_ContainsFunc_int, F_rock_all_int_1, F_rock_bedded_pressures, F_rock_Bed_links, F_rock_bedded_open, F_rock_bedded_feed, F_rock_all_rock_Block, F_rock_Block_valid, F_slices_IndexFunc_steam_Row, F_field_named, F_field_all_int, F_field_Field_model_1, F_field_Field_sums, F_field_Range_ends, F_slices_IndexFunc_rock_Bore, F_rock_Bed_links_1, F_slices_ContainsFunc_rock_Block, F_rock_all_rock_Block_1, F_field_all_int_1, F_slices_IndexFunc_rock_Block, by simp⟩
theorem TT : TOk Tryz.prog T := by
  intro f fn h
  have h' : ∃ p, tbl.find? (fun p => p.1 == f) = some p ∧ p.2 = fn := by simpa [T] using h
  obtain ⟨p, h1, h2⟩ := h'
  have h3 := List.mem_of_find?_eq_some h1
  have h4 := List.find?_some h1
  have h6 := FAll p h3
  simp only [beq_iff_eq] at h4
  subst h2
  rw [← h4]
  exact h6
end Go.Proofs.YtehandllpmlcoaaGreat
