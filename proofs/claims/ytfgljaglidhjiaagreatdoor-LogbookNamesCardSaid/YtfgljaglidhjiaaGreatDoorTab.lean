/- The table of functions: all that it says is the program's. -/
import Derived.Test.YtfgljaglidhjiaaGreatDoorF0
import Derived.Test.YtfgljaglidhjiaaGreatDoorF1
import Derived.Test.YtfgljaglidhjiaaGreatDoorF2
import Derived.Test.YtfgljaglidhjiaaGreatDoorF3
import Derived.Test.YtfgljaglidhjiaaGreatDoorLays
import Derived.Test.YtfgljaglidhjiaaGreatDoorBase18
set_option linter.unusedVariables false
set_option linter.unusedSimpArgs false
set_option maxRecDepth 100000
namespace Go.Proofs.YtfgljaglidhjiaaGreatDoor
open Go Go.Abs
def tbl : List (Nat × Abs.Fn) := [(i_law12_LogbookNames, f_law12_LogbookNames), (i_law12_awake, f_law12_awake), (i_logbook_Fate, f_logbook_Fate), (i_logbook_Depends, f_logbook_Depends), (i_law12_ints, f_law12_ints), (i_logbook_Report, f_logbook_Report), (i_logbook_Run, f_logbook_Run), (i_field_Sum, f_field_Sum), (i_rock_Strikes, f_rock_Strikes), (i_tremor_Light, f_tremor_Light), (i_rock_Play, f_rock_Play), (i_steam_Flash, f_steam_Flash), (i_plant_Expand, f_plant_Expand), (i_law12_texts, f_law12_texts), (i_logbook_Write, f_logbook_Write), (i_logbook_Recover, f_logbook_Recover), (i_law12_day, f_law12_day), (i_logbook_check, f_logbook_check), (i_logbook_run, f_logbook_run), (i_slices_IndexFunc_logbook_Entry, f_slices_IndexFunc_logbook_Entry), (i_logbook_Fate_1, f_logbook_Fate_1), (i_logbook_within, f_logbook_within), (i_slices_Clone_string, f_slices_Clone_string), (i_logbook_Report_1, f_logbook_Report_1), (i_logbook_book_colour, f_logbook_book_colour), (i_logbook_Range_text, f_logbook_Range_text), (i_field_first, f_field_first), (i_field_Field_shape, f_field_Field_shape), (i_field_Sum_1, f_field_Sum_1), (i_field_Field_model, f_field_Field_model), (i_field_Sum_2, f_field_Sum_2), (i_field_Field_measure, f_field_Field_measure), (i_field_Field_weighs, f_field_Field_weighs), (i_rock_ready, f_rock_ready), (i_rock_Bed_reading, f_rock_Bed_reading), (i_rock_caught, f_rock_caught), (i_rock_runs, f_rock_runs), (i_rock_Range_miss, f_rock_Range_miss), (i_rock_bedded_value, f_rock_bedded_value), (i_tremor_all_tremor_Rule, f_tremor_all_tremor_Rule), (i_tremor_Rule_valid, f_tremor_Rule_valid), (i_tremor_all_tremor_Event, f_tremor_all_tremor_Event), (i_tremor_Event_valid, f_tremor_Event_valid), (i_tremor_within, f_tremor_within), (i_tremor_Rule_counts, f_tremor_Rule_counts), (i_slices_ContainsFunc_tremor_Spot, f_slices_ContainsFunc_tremor_Spot), (i_tremor_all_tremor_Spot, f_tremor_all_tremor_Spot), (i_rock_bed, f_rock_bed), (i_rock_Bed_plan, f_rock_Bed_plan), (i_rock_bedded_run, f_rock_bedded_run), (i_steam_Table_valid, f_steam_Table_valid), (i_steam_Table_has, f_steam_Table_has), (i_steam_Stream_valid, f_steam_Stream_valid), (i_steam_Table_at, f_steam_Table_at), (i_steam_flash_of, f_steam_flash_of), (i_plant_Unit_valid, f_plant_Unit_valid), (i_plant_right, f_plant_right), (i_plant_Unit_capacity, f_plant_Unit_capacity), (i_plant_Unit_power, f_plant_Unit_power), (i_logbook_written, f_logbook_written), (i_logbook_records, f_logbook_records), (i_logbook_book_line, f_logbook_book_line), (i_slices_ContainsFunc_string, f_slices_ContainsFunc_string), (i_logbook_check_1, f_logbook_check_1), (i_field_Field_valid, f_field_Field_valid), (i_field_named, f_field_named), (i_field_Field_blocks, f_field_Field_blocks), (i_field_all_int, f_field_all_int), (i_field_Field_model_1, f_field_Field_model_1), (i_field_within, f_field_within), (i_field_Field_sums, f_field_Field_sums), (i_field_Range_ends, f_field_Range_ends), (i_field_scale_of, f_field_scale_of), (i_rock_Bed_valid, f_rock_Bed_valid), (i_rock_within, f_rock_within), (i_field_CheckModels, f_field_CheckModels), (i_rock_all_field_Model, f_rock_all_field_Model), (i_rock_ready_1, f_rock_ready_1), (i_rock_bedded_fits, f_rock_bedded_fits), (i_rock_Bed_size, f_rock_Bed_size), (i_rock_bedded_pressure, f_rock_bedded_pressure), (i_rock_tells, f_rock_tells), (i_slices_ContainsFunc_tremor_Rule, f_slices_ContainsFunc_tremor_Rule), (i_tremor_all_tremor_Rule_1, f_tremor_all_tremor_Rule_1), (i_tremor_box, f_tremor_box), (i_slices_ContainsFunc_tremor_Event, f_slices_ContainsFunc_tremor_Event), (i_tremor_all_tremor_Event_1, f_tremor_all_tremor_Event_1), (i_tremor_Event_valid_1, f_tremor_Event_valid_1), (i_tremor_Point_valid, f_tremor_Point_valid), (i_slices_IndexFunc_tremor_Spot, f_slices_IndexFunc_tremor_Spot), (i_tremor_all_tremor_Spot_1, f_tremor_all_tremor_Spot_1), (i_rock_Bed_rates, f_rock_Bed_rates), (i_rock_bedded_first, f_rock_bedded_first), (i_rock_bedded_tick, f_rock_bedded_tick), (i_steam_within, f_steam_within), (i_steam_all_steam_Row, f_steam_all_steam_Row), (i_steam_Row_alone, f_steam_Row_alone), (i_steam_flash_steam, f_steam_flash_steam), (i_plant_within, f_plant_within), (i_plant_all_plant_Part, f_plant_all_plant_Part), (i_plant_Unit_valid_1, f_plant_Unit_valid_1), (i_plant_all_steam_Stream, f_plant_all_steam_Stream), (i_plant_right_1, f_plant_right_1), (i_steam_CheckStream, f_steam_CheckStream), (i_plant_Unit_used, f_plant_Unit_used), (i_logbook_record, f_logbook_record), (i_logbook_records_1, f_logbook_records_1), (i_slices_Equal_byte, f_slices_Equal_byte), (i_logbook_book_line_1, f_logbook_book_line_1), (i_logbook_parsed, f_logbook_parsed), (i_slices_IndexFunc_string, f_slices_IndexFunc_string), (i_slices_ContainsFunc_int, f_slices_ContainsFunc_int), (i_field_all_int_1, f_field_all_int_1), (i_field_CheckField, f_field_CheckField), (i_steam_CheckTable, f_steam_CheckTable), (i_rock_all_rock_Bore, f_rock_all_rock_Bore), (i_rock_Bed_valid_1, f_rock_Bed_valid_1), (i_field_CheckModels_1, f_field_CheckModels_1), (i_field_Field_models, f_field_Field_models), (i_slices_ContainsFunc_field_Model, f_slices_ContainsFunc_field_Model), (i_rock_all_field_Model_1, f_rock_all_field_Model_1), (i_rock_all_int, f_rock_all_int), (i_rock_bedded_kind, f_rock_bedded_kind), (i_rock_bedded_fits_1, f_rock_bedded_fits_1), (i_rock_bedded_weight, f_rock_bedded_weight), (i_rock_down, f_rock_down), (i_rock_bedded_hold, f_rock_bedded_hold), (i_rock_Yield_mass, f_rock_Yield_mass), (i_rock_Yield_warmth, f_rock_Yield_warmth), (i_rock_Yield_stain, f_rock_Yield_stain), (i_slices_IndexFunc_tremor_Rule, f_slices_IndexFunc_tremor_Rule), (i_slices_IndexFunc_tremor_Event, f_slices_IndexFunc_tremor_Event), (i_tremor_all_int, f_tremor_all_int), (i_tremor_Point_valid_1, f_tremor_Point_valid_1), (i_rock_Bed_rates_1, f_rock_Bed_rates_1), (i_rock_bedded_warm, f_rock_bedded_warm), (i_slices_Clone_rock_State_rock_Block, f_slices_Clone_rock_State_rock_Block), (i_rock_bedded_flows, f_rock_bedded_flows), (i_rock_Block_move, f_rock_Block_move), (i_rock_Bore_given, f_rock_Bore_given), (i_rock_Block_out, f_rock_Block_out), (i_rock_bedded_fed, f_rock_bedded_fed), (i_rock_bedded_state, f_rock_bedded_state), (i_slices_ContainsFunc_steam_Row, f_slices_ContainsFunc_steam_Row), (i_steam_all_steam_Row_1, f_steam_all_steam_Row_1), (i_slices_ContainsFunc_plant_Part, f_slices_ContainsFunc_plant_Part), (i_plant_all_plant_Part_1, f_plant_all_plant_Part_1), (i_slices_ContainsFunc_steam_Stream, f_slices_ContainsFunc_steam_Stream), (i_plant_all_steam_Stream_1, f_plant_all_steam_Stream_1), (i_plant_Unit_used_1, f_plant_Unit_used_1), (i_logbook_sum, f_logbook_sum), (i_logbook_words, f_logbook_words), (i_logbook_ask, f_logbook_ask), (i_logbook_number, f_logbook_number), (i_slices_IndexFunc_int, f_slices_IndexFunc_int), (i_slices_ContainsFunc_rock_Bore, f_slices_ContainsFunc_rock_Bore), (i_rock_all_rock_Bore_1, f_rock_all_rock_Bore_1), (i_field_each_field_Model, f_field_each_field_Model), (i_field_Field_models_1, f_field_Field_models_1), (i_slices_IndexFunc_field_Model, f_slices_IndexFunc_field_Model), (i_rock_all_int_1, f_rock_all_int_1), (i_tremor_all_int_1, f_tremor_all_int_1), (i_rock_bedded_pressures, f_rock_bedded_pressures), (i_rock_Bed_links, f_rock_Bed_links), (i_rock_bedded_open, f_rock_bedded_open), (i_rock_bedded_feed, f_rock_bedded_feed), (i_rock_all_rock_Block, f_rock_all_rock_Block), (i_rock_Block_valid, f_rock_Block_valid), (i_slices_IndexFunc_steam_Row, f_slices_IndexFunc_steam_Row), (i_slices_IndexFunc_plant_Part, f_slices_IndexFunc_plant_Part), (i_slices_IndexFunc_steam_Stream, f_slices_IndexFunc_steam_Stream), (i_logbook_book_field, f_logbook_book_field), (i_logbook_book_table, f_logbook_book_table), (i_logbook_book_bed, f_logbook_book_bed), (i_logbook_book_well, f_logbook_book_well), (i_logbook_book_model, f_logbook_book_model), (i_logbook_book_log, f_logbook_book_log), (i_logbook_book_rule, f_logbook_book_rule), (i_logbook_book_keep, f_logbook_book_keep), (i_logbook_book_quake, f_logbook_book_quake), (i_logbook_book_tick, f_logbook_book_tick), (i_logbook_book_read, f_logbook_book_read), (i_logbook_book_unit, f_logbook_book_unit), (i_logbook_book_sell, f_logbook_book_sell), (i_slices_IndexFunc_rock_Bore, f_slices_IndexFunc_rock_Bore), (i_rock_Bed_links_1, f_rock_Bed_links_1), (i_slices_ContainsFunc_rock_Block, f_slices_ContainsFunc_rock_Block), (i_rock_all_rock_Block_1, f_rock_all_rock_Block_1), (i_logbook_must, f_logbook_must), (i_rock_CheckBed, f_rock_CheckBed), (i_slices_Clone_rock_Bore, f_slices_Clone_rock_Bore), (i_slices_ContainsFunc_logbook_Entry, f_slices_ContainsFunc_logbook_Entry), (i_logbook_book_model_1, f_logbook_book_model_1), (i_rock_Start, f_rock_Start), (i_field_CheckMeasures, f_field_CheckMeasures), (i_logbook_book_strike, f_logbook_book_strike), (i_logbook_book_log_1, f_logbook_book_log_1), (i_tremor_Inject, f_tremor_Inject), (i_logbook_book_left, f_logbook_book_left), (i_slices_Clone_L_int, f_slices_Clone_L_int), (i_logbook_book_read_1, f_logbook_book_read_1), (i_plant_CheckUnit, f_plant_CheckUnit), (i_logbook_span, f_logbook_span), (i_slices_IndexFunc_rock_Block, f_slices_IndexFunc_rock_Block), (i_field_CheckMeasures_1, f_field_CheckMeasures_1), (i_field_Field_measures, f_field_Field_measures), (i_tremor_Inject_1, f_tremor_Inject_1), (i_tremor_all_uint8, f_tremor_all_uint8), (i_tremor_Inject_2, f_tremor_Inject_2), (i_logbook_filter_logbook_Entry, f_logbook_filter_logbook_Entry), (i_logbook_book_left_1, f_logbook_book_left_1), (i_slices_Min_int, f_slices_Min_int), (i_slices_Max_int, f_slices_Max_int), (i_field_each_field_Measure, f_field_each_field_Measure), (i_field_Field_measures_1, f_field_Field_measures_1), (i_slices_ContainsFunc_uint8, f_slices_ContainsFunc_uint8), (i_tremor_all_uint8_1, f_tremor_all_uint8_1), (i_slices_IndexFunc_uint8, f_slices_IndexFunc_uint8), (1000000 + i_slices_Delete_string, ⟨9, [], .exit 0⟩), (1000000 + i_strings_Builder_WriteString, ⟨5245543, [], .exit 0⟩), (1000000 + i_strings_Join, ⟨5, [], .exit 0⟩), (1000000 + i_strconv_Itoa, ⟨3, [], .exit 0⟩), (1000000 + i_strings_Builder_String, ⟨5245544, [], .exit 0⟩), (1000000 + i_strings_Split, ⟨6, [], .exit 0⟩), (1000000 + i_strconv_Atoi, ⟨7636, [], .exit 0⟩)]
def T : Tbl := fun f => (tbl.find? fun p => p.1 == f).map (·.2)
theorem T_law12_LogbookNames : T i_law12_LogbookNames = some f_law12_LogbookNames := rfl
theorem T_law12_awake : T i_law12_awake = some f_law12_awake := rfl
theorem T_logbook_Fate : T i_logbook_Fate = some f_logbook_Fate := rfl
theorem T_logbook_Depends : T i_logbook_Depends = some f_logbook_Depends := rfl
theorem T_law12_ints : T i_law12_ints = some f_law12_ints := rfl
theorem T_logbook_Report : T i_logbook_Report = some f_logbook_Report := rfl
theorem T_logbook_Run : T i_logbook_Run = some f_logbook_Run := rfl
theorem T_field_Sum : T i_field_Sum = some f_field_Sum := rfl
theorem T_rock_Strikes : T i_rock_Strikes = some f_rock_Strikes := rfl
theorem T_tremor_Light : T i_tremor_Light = some f_tremor_Light := rfl
theorem T_rock_Play : T i_rock_Play = some f_rock_Play := rfl
theorem T_steam_Flash : T i_steam_Flash = some f_steam_Flash := rfl
theorem T_plant_Expand : T i_plant_Expand = some f_plant_Expand := rfl
theorem T_law12_texts : T i_law12_texts = some f_law12_texts := rfl
theorem T_logbook_Write : T i_logbook_Write = some f_logbook_Write := rfl
theorem T_logbook_Recover : T i_logbook_Recover = some f_logbook_Recover := rfl
theorem T_law12_day : T i_law12_day = some f_law12_day := rfl
theorem T_logbook_check : T i_logbook_check = some f_logbook_check := rfl
theorem T_logbook_run : T i_logbook_run = some f_logbook_run := rfl
theorem T_slices_IndexFunc_logbook_Entry : T i_slices_IndexFunc_logbook_Entry = some f_slices_IndexFunc_logbook_Entry := rfl
theorem T_logbook_Fate_1 : T i_logbook_Fate_1 = some f_logbook_Fate_1 := rfl
theorem T_logbook_within : T i_logbook_within = some f_logbook_within := rfl
theorem T_slices_Clone_string : T i_slices_Clone_string = some f_slices_Clone_string := rfl
theorem T_logbook_Report_1 : T i_logbook_Report_1 = some f_logbook_Report_1 := rfl
theorem T_logbook_book_colour : T i_logbook_book_colour = some f_logbook_book_colour := rfl
theorem T_logbook_Range_text : T i_logbook_Range_text = some f_logbook_Range_text := rfl
theorem T_field_first : T i_field_first = some f_field_first := rfl
theorem T_field_Field_shape : T i_field_Field_shape = some f_field_Field_shape := rfl
theorem T_field_Sum_1 : T i_field_Sum_1 = some f_field_Sum_1 := rfl
theorem T_field_Field_model : T i_field_Field_model = some f_field_Field_model := rfl
theorem T_field_Sum_2 : T i_field_Sum_2 = some f_field_Sum_2 := rfl
theorem T_field_Field_measure : T i_field_Field_measure = some f_field_Field_measure := rfl
theorem T_field_Field_weighs : T i_field_Field_weighs = some f_field_Field_weighs := rfl
theorem T_rock_ready : T i_rock_ready = some f_rock_ready := rfl
theorem T_rock_Bed_reading : T i_rock_Bed_reading = some f_rock_Bed_reading := rfl
theorem T_rock_caught : T i_rock_caught = some f_rock_caught := rfl
theorem T_rock_runs : T i_rock_runs = some f_rock_runs := rfl
theorem T_rock_Range_miss : T i_rock_Range_miss = some f_rock_Range_miss := rfl
theorem T_rock_bedded_value : T i_rock_bedded_value = some f_rock_bedded_value := rfl
theorem T_tremor_all_tremor_Rule : T i_tremor_all_tremor_Rule = some f_tremor_all_tremor_Rule := rfl
theorem T_tremor_Rule_valid : T i_tremor_Rule_valid = some f_tremor_Rule_valid := rfl
theorem T_tremor_all_tremor_Event : T i_tremor_all_tremor_Event = some f_tremor_all_tremor_Event := rfl
theorem T_tremor_Event_valid : T i_tremor_Event_valid = some f_tremor_Event_valid := rfl
theorem T_tremor_within : T i_tremor_within = some f_tremor_within := rfl
theorem T_tremor_Rule_counts : T i_tremor_Rule_counts = some f_tremor_Rule_counts := rfl
theorem T_slices_ContainsFunc_tremor_Spot : T i_slices_ContainsFunc_tremor_Spot = some f_slices_ContainsFunc_tremor_Spot := rfl
theorem T_tremor_all_tremor_Spot : T i_tremor_all_tremor_Spot = some f_tremor_all_tremor_Spot := rfl
theorem T_rock_bed : T i_rock_bed = some f_rock_bed := rfl
theorem T_rock_Bed_plan : T i_rock_Bed_plan = some f_rock_Bed_plan := rfl
theorem T_rock_bedded_run : T i_rock_bedded_run = some f_rock_bedded_run := rfl
theorem T_steam_Table_valid : T i_steam_Table_valid = some f_steam_Table_valid := rfl
theorem T_steam_Table_has : T i_steam_Table_has = some f_steam_Table_has := rfl
theorem T_steam_Stream_valid : T i_steam_Stream_valid = some f_steam_Stream_valid := rfl
theorem T_steam_Table_at : T i_steam_Table_at = some f_steam_Table_at := rfl
theorem T_steam_flash_of : T i_steam_flash_of = some f_steam_flash_of := rfl
theorem T_plant_Unit_valid : T i_plant_Unit_valid = some f_plant_Unit_valid := rfl
theorem T_plant_right : T i_plant_right = some f_plant_right := rfl
theorem T_plant_Unit_capacity : T i_plant_Unit_capacity = some f_plant_Unit_capacity := rfl
theorem T_plant_Unit_power : T i_plant_Unit_power = some f_plant_Unit_power := rfl
theorem T_logbook_written : T i_logbook_written = some f_logbook_written := rfl
theorem T_logbook_records : T i_logbook_records = some f_logbook_records := rfl
theorem T_logbook_book_line : T i_logbook_book_line = some f_logbook_book_line := rfl
theorem T_slices_ContainsFunc_string : T i_slices_ContainsFunc_string = some f_slices_ContainsFunc_string := rfl
theorem T_logbook_check_1 : T i_logbook_check_1 = some f_logbook_check_1 := rfl
theorem T_field_Field_valid : T i_field_Field_valid = some f_field_Field_valid := rfl
theorem T_field_named : T i_field_named = some f_field_named := rfl
theorem T_field_Field_blocks : T i_field_Field_blocks = some f_field_Field_blocks := rfl
theorem T_field_all_int : T i_field_all_int = some f_field_all_int := rfl
theorem T_field_Field_model_1 : T i_field_Field_model_1 = some f_field_Field_model_1 := rfl
theorem T_field_within : T i_field_within = some f_field_within := rfl
theorem T_field_Field_sums : T i_field_Field_sums = some f_field_Field_sums := rfl
theorem T_field_Range_ends : T i_field_Range_ends = some f_field_Range_ends := rfl
theorem T_field_scale_of : T i_field_scale_of = some f_field_scale_of := rfl
theorem T_rock_Bed_valid : T i_rock_Bed_valid = some f_rock_Bed_valid := rfl
theorem T_rock_within : T i_rock_within = some f_rock_within := rfl
theorem T_field_CheckModels : T i_field_CheckModels = some f_field_CheckModels := rfl
theorem T_rock_all_field_Model : T i_rock_all_field_Model = some f_rock_all_field_Model := rfl
theorem T_rock_ready_1 : T i_rock_ready_1 = some f_rock_ready_1 := rfl
theorem T_rock_bedded_fits : T i_rock_bedded_fits = some f_rock_bedded_fits := rfl
theorem T_rock_Bed_size : T i_rock_Bed_size = some f_rock_Bed_size := rfl
theorem T_rock_bedded_pressure : T i_rock_bedded_pressure = some f_rock_bedded_pressure := rfl
theorem T_rock_tells : T i_rock_tells = some f_rock_tells := rfl
theorem T_slices_ContainsFunc_tremor_Rule : T i_slices_ContainsFunc_tremor_Rule = some f_slices_ContainsFunc_tremor_Rule := rfl
theorem T_tremor_all_tremor_Rule_1 : T i_tremor_all_tremor_Rule_1 = some f_tremor_all_tremor_Rule_1 := rfl
theorem T_tremor_box : T i_tremor_box = some f_tremor_box := rfl
theorem T_slices_ContainsFunc_tremor_Event : T i_slices_ContainsFunc_tremor_Event = some f_slices_ContainsFunc_tremor_Event := rfl
theorem T_tremor_all_tremor_Event_1 : T i_tremor_all_tremor_Event_1 = some f_tremor_all_tremor_Event_1 := rfl
theorem T_tremor_Event_valid_1 : T i_tremor_Event_valid_1 = some f_tremor_Event_valid_1 := rfl
theorem T_tremor_Point_valid : T i_tremor_Point_valid = some f_tremor_Point_valid := rfl
theorem T_slices_IndexFunc_tremor_Spot : T i_slices_IndexFunc_tremor_Spot = some f_slices_IndexFunc_tremor_Spot := rfl
theorem T_tremor_all_tremor_Spot_1 : T i_tremor_all_tremor_Spot_1 = some f_tremor_all_tremor_Spot_1 := rfl
theorem T_rock_Bed_rates : T i_rock_Bed_rates = some f_rock_Bed_rates := rfl
theorem T_rock_bedded_first : T i_rock_bedded_first = some f_rock_bedded_first := rfl
theorem T_rock_bedded_tick : T i_rock_bedded_tick = some f_rock_bedded_tick := rfl
theorem T_steam_within : T i_steam_within = some f_steam_within := rfl
theorem T_steam_all_steam_Row : T i_steam_all_steam_Row = some f_steam_all_steam_Row := rfl
theorem T_steam_Row_alone : T i_steam_Row_alone = some f_steam_Row_alone := rfl
theorem T_steam_flash_steam : T i_steam_flash_steam = some f_steam_flash_steam := rfl
theorem T_plant_within : T i_plant_within = some f_plant_within := rfl
theorem T_plant_all_plant_Part : T i_plant_all_plant_Part = some f_plant_all_plant_Part := rfl
theorem T_plant_Unit_valid_1 : T i_plant_Unit_valid_1 = some f_plant_Unit_valid_1 := rfl
theorem T_plant_all_steam_Stream : T i_plant_all_steam_Stream = some f_plant_all_steam_Stream := rfl
theorem T_plant_right_1 : T i_plant_right_1 = some f_plant_right_1 := rfl
theorem T_steam_CheckStream : T i_steam_CheckStream = some f_steam_CheckStream := rfl
theorem T_plant_Unit_used : T i_plant_Unit_used = some f_plant_Unit_used := rfl
theorem T_logbook_record : T i_logbook_record = some f_logbook_record := rfl
theorem T_logbook_records_1 : T i_logbook_records_1 = some f_logbook_records_1 := rfl
theorem T_slices_Equal_byte : T i_slices_Equal_byte = some f_slices_Equal_byte := rfl
theorem T_logbook_book_line_1 : T i_logbook_book_line_1 = some f_logbook_book_line_1 := rfl
theorem T_logbook_parsed : T i_logbook_parsed = some f_logbook_parsed := rfl
theorem T_slices_IndexFunc_string : T i_slices_IndexFunc_string = some f_slices_IndexFunc_string := rfl
theorem T_slices_ContainsFunc_int : T i_slices_ContainsFunc_int = some f_slices_ContainsFunc_int := rfl
theorem T_field_all_int_1 : T i_field_all_int_1 = some f_field_all_int_1 := rfl
theorem T_field_CheckField : T i_field_CheckField = some f_field_CheckField := rfl
theorem T_steam_CheckTable : T i_steam_CheckTable = some f_steam_CheckTable := rfl
theorem T_rock_all_rock_Bore : T i_rock_all_rock_Bore = some f_rock_all_rock_Bore := rfl
theorem T_rock_Bed_valid_1 : T i_rock_Bed_valid_1 = some f_rock_Bed_valid_1 := rfl
theorem T_field_CheckModels_1 : T i_field_CheckModels_1 = some f_field_CheckModels_1 := rfl
theorem T_field_Field_models : T i_field_Field_models = some f_field_Field_models := rfl
theorem T_slices_ContainsFunc_field_Model : T i_slices_ContainsFunc_field_Model = some f_slices_ContainsFunc_field_Model := rfl
theorem T_rock_all_field_Model_1 : T i_rock_all_field_Model_1 = some f_rock_all_field_Model_1 := rfl
theorem T_rock_all_int : T i_rock_all_int = some f_rock_all_int := rfl
theorem T_rock_bedded_kind : T i_rock_bedded_kind = some f_rock_bedded_kind := rfl
theorem T_rock_bedded_fits_1 : T i_rock_bedded_fits_1 = some f_rock_bedded_fits_1 := rfl
theorem T_rock_bedded_weight : T i_rock_bedded_weight = some f_rock_bedded_weight := rfl
theorem T_rock_down : T i_rock_down = some f_rock_down := rfl
theorem T_rock_bedded_hold : T i_rock_bedded_hold = some f_rock_bedded_hold := rfl
theorem T_rock_Yield_mass : T i_rock_Yield_mass = some f_rock_Yield_mass := rfl
theorem T_rock_Yield_warmth : T i_rock_Yield_warmth = some f_rock_Yield_warmth := rfl
theorem T_rock_Yield_stain : T i_rock_Yield_stain = some f_rock_Yield_stain := rfl
theorem T_slices_IndexFunc_tremor_Rule : T i_slices_IndexFunc_tremor_Rule = some f_slices_IndexFunc_tremor_Rule := rfl
theorem T_slices_IndexFunc_tremor_Event : T i_slices_IndexFunc_tremor_Event = some f_slices_IndexFunc_tremor_Event := rfl
theorem T_tremor_all_int : T i_tremor_all_int = some f_tremor_all_int := rfl
theorem T_tremor_Point_valid_1 : T i_tremor_Point_valid_1 = some f_tremor_Point_valid_1 := rfl
theorem T_rock_Bed_rates_1 : T i_rock_Bed_rates_1 = some f_rock_Bed_rates_1 := rfl
theorem T_rock_bedded_warm : T i_rock_bedded_warm = some f_rock_bedded_warm := rfl
theorem T_slices_Clone_rock_State_rock_Block : T i_slices_Clone_rock_State_rock_Block = some f_slices_Clone_rock_State_rock_Block := rfl
theorem T_rock_bedded_flows : T i_rock_bedded_flows = some f_rock_bedded_flows := rfl
theorem T_rock_Block_move : T i_rock_Block_move = some f_rock_Block_move := rfl
theorem T_rock_Bore_given : T i_rock_Bore_given = some f_rock_Bore_given := rfl
theorem T_rock_Block_out : T i_rock_Block_out = some f_rock_Block_out := rfl
theorem T_rock_bedded_fed : T i_rock_bedded_fed = some f_rock_bedded_fed := rfl
theorem T_rock_bedded_state : T i_rock_bedded_state = some f_rock_bedded_state := rfl
theorem T_slices_ContainsFunc_steam_Row : T i_slices_ContainsFunc_steam_Row = some f_slices_ContainsFunc_steam_Row := rfl
theorem T_steam_all_steam_Row_1 : T i_steam_all_steam_Row_1 = some f_steam_all_steam_Row_1 := rfl
theorem T_slices_ContainsFunc_plant_Part : T i_slices_ContainsFunc_plant_Part = some f_slices_ContainsFunc_plant_Part := rfl
theorem T_plant_all_plant_Part_1 : T i_plant_all_plant_Part_1 = some f_plant_all_plant_Part_1 := rfl
theorem T_slices_ContainsFunc_steam_Stream : T i_slices_ContainsFunc_steam_Stream = some f_slices_ContainsFunc_steam_Stream := rfl
theorem T_plant_all_steam_Stream_1 : T i_plant_all_steam_Stream_1 = some f_plant_all_steam_Stream_1 := rfl
theorem T_plant_Unit_used_1 : T i_plant_Unit_used_1 = some f_plant_Unit_used_1 := rfl
theorem T_logbook_sum : T i_logbook_sum = some f_logbook_sum := rfl
theorem T_logbook_words : T i_logbook_words = some f_logbook_words := rfl
theorem T_logbook_ask : T i_logbook_ask = some f_logbook_ask := rfl
theorem T_logbook_number : T i_logbook_number = some f_logbook_number := rfl
theorem T_slices_IndexFunc_int : T i_slices_IndexFunc_int = some f_slices_IndexFunc_int := rfl
theorem T_slices_ContainsFunc_rock_Bore : T i_slices_ContainsFunc_rock_Bore = some f_slices_ContainsFunc_rock_Bore := rfl
theorem T_rock_all_rock_Bore_1 : T i_rock_all_rock_Bore_1 = some f_rock_all_rock_Bore_1 := rfl
theorem T_field_each_field_Model : T i_field_each_field_Model = some f_field_each_field_Model := rfl
theorem T_field_Field_models_1 : T i_field_Field_models_1 = some f_field_Field_models_1 := rfl
theorem T_slices_IndexFunc_field_Model : T i_slices_IndexFunc_field_Model = some f_slices_IndexFunc_field_Model := rfl
theorem T_rock_all_int_1 : T i_rock_all_int_1 = some f_rock_all_int_1 := rfl
theorem T_tremor_all_int_1 : T i_tremor_all_int_1 = some f_tremor_all_int_1 := rfl
theorem T_rock_bedded_pressures : T i_rock_bedded_pressures = some f_rock_bedded_pressures := rfl
theorem T_rock_Bed_links : T i_rock_Bed_links = some f_rock_Bed_links := rfl
theorem T_rock_bedded_open : T i_rock_bedded_open = some f_rock_bedded_open := rfl
theorem T_rock_bedded_feed : T i_rock_bedded_feed = some f_rock_bedded_feed := rfl
theorem T_rock_all_rock_Block : T i_rock_all_rock_Block = some f_rock_all_rock_Block := rfl
theorem T_rock_Block_valid : T i_rock_Block_valid = some f_rock_Block_valid := rfl
theorem T_slices_IndexFunc_steam_Row : T i_slices_IndexFunc_steam_Row = some f_slices_IndexFunc_steam_Row := rfl
theorem T_slices_IndexFunc_plant_Part : T i_slices_IndexFunc_plant_Part = some f_slices_IndexFunc_plant_Part := rfl
theorem T_slices_IndexFunc_steam_Stream : T i_slices_IndexFunc_steam_Stream = some f_slices_IndexFunc_steam_Stream := rfl
theorem T_logbook_book_field : T i_logbook_book_field = some f_logbook_book_field := rfl
theorem T_logbook_book_table : T i_logbook_book_table = some f_logbook_book_table := rfl
theorem T_logbook_book_bed : T i_logbook_book_bed = some f_logbook_book_bed := rfl
theorem T_logbook_book_well : T i_logbook_book_well = some f_logbook_book_well := rfl
theorem T_logbook_book_model : T i_logbook_book_model = some f_logbook_book_model := rfl
theorem T_logbook_book_log : T i_logbook_book_log = some f_logbook_book_log := rfl
theorem T_logbook_book_rule : T i_logbook_book_rule = some f_logbook_book_rule := rfl
theorem T_logbook_book_keep : T i_logbook_book_keep = some f_logbook_book_keep := rfl
theorem T_logbook_book_quake : T i_logbook_book_quake = some f_logbook_book_quake := rfl
theorem T_logbook_book_tick : T i_logbook_book_tick = some f_logbook_book_tick := rfl
theorem T_logbook_book_read : T i_logbook_book_read = some f_logbook_book_read := rfl
theorem T_logbook_book_unit : T i_logbook_book_unit = some f_logbook_book_unit := rfl
theorem T_logbook_book_sell : T i_logbook_book_sell = some f_logbook_book_sell := rfl
theorem T_slices_IndexFunc_rock_Bore : T i_slices_IndexFunc_rock_Bore = some f_slices_IndexFunc_rock_Bore := rfl
theorem T_rock_Bed_links_1 : T i_rock_Bed_links_1 = some f_rock_Bed_links_1 := rfl
theorem T_slices_ContainsFunc_rock_Block : T i_slices_ContainsFunc_rock_Block = some f_slices_ContainsFunc_rock_Block := rfl
theorem T_rock_all_rock_Block_1 : T i_rock_all_rock_Block_1 = some f_rock_all_rock_Block_1 := rfl
theorem T_logbook_must : T i_logbook_must = some f_logbook_must := rfl
theorem T_rock_CheckBed : T i_rock_CheckBed = some f_rock_CheckBed := rfl
theorem T_slices_Clone_rock_Bore : T i_slices_Clone_rock_Bore = some f_slices_Clone_rock_Bore := rfl
theorem T_slices_ContainsFunc_logbook_Entry : T i_slices_ContainsFunc_logbook_Entry = some f_slices_ContainsFunc_logbook_Entry := rfl
theorem T_logbook_book_model_1 : T i_logbook_book_model_1 = some f_logbook_book_model_1 := rfl
theorem T_rock_Start : T i_rock_Start = some f_rock_Start := rfl
theorem T_field_CheckMeasures : T i_field_CheckMeasures = some f_field_CheckMeasures := rfl
theorem T_logbook_book_strike : T i_logbook_book_strike = some f_logbook_book_strike := rfl
theorem T_logbook_book_log_1 : T i_logbook_book_log_1 = some f_logbook_book_log_1 := rfl
theorem T_tremor_Inject : T i_tremor_Inject = some f_tremor_Inject := rfl
theorem T_logbook_book_left : T i_logbook_book_left = some f_logbook_book_left := rfl
theorem T_slices_Clone_L_int : T i_slices_Clone_L_int = some f_slices_Clone_L_int := rfl
theorem T_logbook_book_read_1 : T i_logbook_book_read_1 = some f_logbook_book_read_1 := rfl
theorem T_plant_CheckUnit : T i_plant_CheckUnit = some f_plant_CheckUnit := rfl
theorem T_logbook_span : T i_logbook_span = some f_logbook_span := rfl
theorem T_slices_IndexFunc_rock_Block : T i_slices_IndexFunc_rock_Block = some f_slices_IndexFunc_rock_Block := rfl
theorem T_field_CheckMeasures_1 : T i_field_CheckMeasures_1 = some f_field_CheckMeasures_1 := rfl
theorem T_field_Field_measures : T i_field_Field_measures = some f_field_Field_measures := rfl
theorem T_tremor_Inject_1 : T i_tremor_Inject_1 = some f_tremor_Inject_1 := rfl
theorem T_tremor_all_uint8 : T i_tremor_all_uint8 = some f_tremor_all_uint8 := rfl
theorem T_tremor_Inject_2 : T i_tremor_Inject_2 = some f_tremor_Inject_2 := rfl
theorem T_logbook_filter_logbook_Entry : T i_logbook_filter_logbook_Entry = some f_logbook_filter_logbook_Entry := rfl
theorem T_logbook_book_left_1 : T i_logbook_book_left_1 = some f_logbook_book_left_1 := rfl
theorem T_slices_Min_int : T i_slices_Min_int = some f_slices_Min_int := rfl
theorem T_slices_Max_int : T i_slices_Max_int = some f_slices_Max_int := rfl
theorem T_field_each_field_Measure : T i_field_each_field_Measure = some f_field_each_field_Measure := rfl
theorem T_field_Field_measures_1 : T i_field_Field_measures_1 = some f_field_Field_measures_1 := rfl
theorem T_slices_ContainsFunc_uint8 : T i_slices_ContainsFunc_uint8 = some f_slices_ContainsFunc_uint8 := rfl
theorem T_tremor_all_uint8_1 : T i_tremor_all_uint8_1 = some f_tremor_all_uint8_1 := rfl
theorem T_slices_IndexFunc_uint8 : T i_slices_IndexFunc_uint8 = some f_slices_IndexFunc_uint8 := rfl
theorem mixed : Tryz.prog.follows .mixedOrders = true := by kernel_rfl
theorem T_slices_Delete_string : T i_slices_Delete_string = none := rfl
theorem N_slices_Delete_string : T (1000000 + i_slices_Delete_string) = some ⟨9, [], .exit 0⟩ := rfl
theorem T_strings_Builder_WriteString : T i_strings_Builder_WriteString = none := rfl
theorem N_strings_Builder_WriteString : T (1000000 + i_strings_Builder_WriteString) = some ⟨5245543, [], .exit 0⟩ := rfl
theorem T_strings_Join : T i_strings_Join = none := rfl
theorem N_strings_Join : T (1000000 + i_strings_Join) = some ⟨5, [], .exit 0⟩ := rfl
theorem T_strconv_Itoa : T i_strconv_Itoa = none := rfl
theorem N_strconv_Itoa : T (1000000 + i_strconv_Itoa) = some ⟨3, [], .exit 0⟩ := rfl
theorem T_strings_Builder_String : T i_strings_Builder_String = none := rfl
theorem N_strings_Builder_String : T (1000000 + i_strings_Builder_String) = some ⟨5245544, [], .exit 0⟩ := rfl
theorem T_strings_Split : T i_strings_Split = none := rfl
theorem N_strings_Split : T (1000000 + i_strings_Split) = some ⟨6, [], .exit 0⟩ := rfl
theorem T_strconv_Atoi : T i_strconv_Atoi = none := rfl
theorem N_strconv_Atoi : T (1000000 + i_strconv_Atoi) = some ⟨7636, [], .exit 0⟩ := rfl
def FOk (f : Nat) (fn : Abs.Fn) : Prop := if f < 1000000 then FnOk Tryz.prog f fn else fn.body = .exit 0 ∧ NatC Tryz.prog (CR0 Tryz.prog) fn.npar (f - 1000000)
theorem fok {f : Nat} {fn : Abs.Fn} (h : f < 1000000) (h' : FnOk Tryz.prog f fn) : FOk f fn := by unfold FOk; rw [if_pos h]; exact h'
theorem nok {k f : Nat} (h' : NatC Tryz.prog (CR0 Tryz.prog) k f) : FOk (1000000 + f) ⟨k, [], .exit 0⟩ := by unfold FOk; rw [if_neg (by omega), show 1000000 + f - 1000000 = f from by omega]; exact ⟨rfl, h'⟩
theorem F_law12_LogbookNames : FOk i_law12_LogbookNames f_law12_LogbookNames := fok (by decide) ⟨Tryz.f13, _, a_law12_LogbookNames, Tryz.func13, by decide, rfl, ok_law12_LogbookNames⟩
theorem F_law12_awake : FOk i_law12_awake f_law12_awake := fok (by decide) ⟨Tryz.f17, _, a_law12_awake, Tryz.func17, by decide, rfl, ok_law12_awake⟩
theorem F_logbook_Fate : FOk i_logbook_Fate f_logbook_Fate := fok (by decide) ⟨Tryz.f18, _, a_logbook_Fate, Tryz.func18, by decide, rfl, ok_logbook_Fate⟩
theorem F_logbook_Depends : FOk i_logbook_Depends f_logbook_Depends := fok (by decide) ⟨Tryz.f22, _, a_logbook_Depends, Tryz.func22, by decide, rfl, ok_logbook_Depends⟩
theorem F_law12_ints : FOk i_law12_ints f_law12_ints := fok (by decide) ⟨Tryz.f23, _, a_law12_ints, Tryz.func23, by decide, rfl, ok_law12_ints⟩
theorem F_logbook_Report : FOk i_logbook_Report f_logbook_Report := fok (by decide) ⟨Tryz.f25, _, a_logbook_Report, Tryz.func25, by decide, rfl, ok_logbook_Report⟩
theorem F_logbook_Run : FOk i_logbook_Run f_logbook_Run := fok (by decide) ⟨Tryz.f27, _, a_logbook_Run, Tryz.func27, by decide, rfl, ok_logbook_Run⟩
theorem F_field_Sum : FOk i_field_Sum f_field_Sum := fok (by decide) ⟨Tryz.f30, _, a_field_Sum, Tryz.func30, by decide, rfl, ok_field_Sum⟩
theorem F_rock_Strikes : FOk i_rock_Strikes f_rock_Strikes := fok (by decide) ⟨Tryz.f31, _, a_rock_Strikes, Tryz.func31, by decide, rfl, ok_rock_Strikes⟩
theorem F_tremor_Light : FOk i_tremor_Light f_tremor_Light := fok (by decide) ⟨Tryz.f32, _, a_tremor_Light, Tryz.func32, by decide, rfl, ok_tremor_Light⟩
theorem F_rock_Play : FOk i_rock_Play f_rock_Play := fok (by decide) ⟨Tryz.f33, _, a_rock_Play, Tryz.func33, by decide, rfl, ok_rock_Play⟩
theorem F_steam_Flash : FOk i_steam_Flash f_steam_Flash := fok (by decide) ⟨Tryz.f34, _, a_steam_Flash, Tryz.func34, by decide, rfl, ok_steam_Flash⟩
theorem F_plant_Expand : FOk i_plant_Expand f_plant_Expand := fok (by decide) ⟨Tryz.f35, _, a_plant_Expand, Tryz.func35, by decide, rfl, ok_plant_Expand⟩
theorem F_law12_texts : FOk i_law12_texts f_law12_texts := fok (by decide) ⟨Tryz.f39, _, a_law12_texts, Tryz.func39, by decide, rfl, ok_law12_texts⟩
theorem F_logbook_Write : FOk i_logbook_Write f_logbook_Write := fok (by decide) ⟨Tryz.f42, _, a_logbook_Write, Tryz.func42, by decide, rfl, ok_logbook_Write⟩
theorem F_logbook_Recover : FOk i_logbook_Recover f_logbook_Recover := fok (by decide) ⟨Tryz.f43, _, a_logbook_Recover, Tryz.func43, by decide, rfl, ok_logbook_Recover⟩
theorem F_law12_day : FOk i_law12_day f_law12_day := fok (by decide) ⟨Tryz.f46, _, a_law12_day, Tryz.func46, by decide, rfl, ok_law12_day⟩
theorem F_logbook_check : FOk i_logbook_check f_logbook_check := fok (by decide) ⟨Tryz.f50, _, a_logbook_check, Tryz.func50, by decide, rfl, ok_logbook_check⟩
theorem F_logbook_run : FOk i_logbook_run f_logbook_run := fok (by decide) ⟨Tryz.f51, _, a_logbook_run, Tryz.func51, by decide, rfl, ok_logbook_run⟩
theorem F_slices_IndexFunc_logbook_Entry : FOk i_slices_IndexFunc_logbook_Entry f_slices_IndexFunc_logbook_Entry := fok (by decide) ⟨Tryz.f52, _, a_slices_IndexFunc_logbook_Entry, Tryz.func52, by decide, rfl, ok_slices_IndexFunc_logbook_Entry⟩
theorem F_logbook_Fate_1 : FOk i_logbook_Fate_1 f_logbook_Fate_1 := fok (by decide) ⟨Tryz.f53, _, a_logbook_Fate_1, Tryz.func53, by decide, rfl, ok_logbook_Fate_1⟩
theorem F_logbook_within : FOk i_logbook_within f_logbook_within := fok (by decide) ⟨Tryz.f55, _, a_logbook_within, Tryz.func55, by decide, rfl, ok_logbook_within⟩
theorem F_slices_Clone_string : FOk i_slices_Clone_string f_slices_Clone_string := fok (by decide) ⟨Tryz.f57, _, a_slices_Clone_string, Tryz.func57, by decide, rfl, ok_slices_Clone_string⟩
theorem F_logbook_Report_1 : FOk i_logbook_Report_1 f_logbook_Report_1 := fok (by decide) ⟨Tryz.f58, _, a_logbook_Report_1, Tryz.func58, by decide, rfl, ok_logbook_Report_1⟩
theorem F_logbook_book_colour : FOk i_logbook_book_colour f_logbook_book_colour := fok (by decide) ⟨Tryz.f62, _, a_logbook_book_colour, Tryz.func62, by decide, rfl, ok_logbook_book_colour⟩
theorem F_logbook_Range_text : FOk i_logbook_Range_text f_logbook_Range_text := fok (by decide) ⟨Tryz.f63, _, a_logbook_Range_text, Tryz.func63, by decide, rfl, ok_logbook_Range_text⟩
theorem F_field_first : FOk i_field_first f_field_first := fok (by decide) ⟨Tryz.f69, _, a_field_first, Tryz.func69, by decide, rfl, ok_field_first⟩
theorem F_field_Field_shape : FOk i_field_Field_shape f_field_Field_shape := fok (by decide) ⟨Tryz.f70, _, a_field_Field_shape, Tryz.func70, by decide, rfl, ok_field_Field_shape⟩
theorem F_field_Sum_1 : FOk i_field_Sum_1 f_field_Sum_1 := fok (by decide) ⟨Tryz.f71, _, a_field_Sum_1, Tryz.func71, by decide, rfl, ok_field_Sum_1⟩
theorem F_field_Field_model : FOk i_field_Field_model f_field_Field_model := fok (by decide) ⟨Tryz.f72, _, a_field_Field_model, Tryz.func72, by decide, rfl, ok_field_Field_model⟩
theorem F_field_Sum_2 : FOk i_field_Sum_2 f_field_Sum_2 := fok (by decide) ⟨Tryz.f73, _, a_field_Sum_2, Tryz.func73, by decide, rfl, ok_field_Sum_2⟩
theorem F_field_Field_measure : FOk i_field_Field_measure f_field_Field_measure := fok (by decide) ⟨Tryz.f74, _, a_field_Field_measure, Tryz.func74, by decide, rfl, ok_field_Field_measure⟩
theorem F_field_Field_weighs : FOk i_field_Field_weighs f_field_Field_weighs := fok (by decide) ⟨Tryz.f75, _, a_field_Field_weighs, Tryz.func75, by decide, rfl, ok_field_Field_weighs⟩
theorem F_rock_ready : FOk i_rock_ready f_rock_ready := fok (by decide) ⟨Tryz.f76, _, a_rock_ready, Tryz.func76, by decide, rfl, ok_rock_ready⟩
theorem F_rock_Bed_reading : FOk i_rock_Bed_reading f_rock_Bed_reading := fok (by decide) ⟨Tryz.f77, _, a_rock_Bed_reading, Tryz.func77, by decide, rfl, ok_rock_Bed_reading⟩
theorem F_rock_caught : FOk i_rock_caught f_rock_caught := fok (by decide) ⟨Tryz.f78, _, a_rock_caught, Tryz.func78, by decide, rfl, ok_rock_caught⟩
theorem F_rock_runs : FOk i_rock_runs f_rock_runs := fok (by decide) ⟨Tryz.f79, _, a_rock_runs, Tryz.func79, by decide, rfl, ok_rock_runs⟩
theorem F_rock_Range_miss : FOk i_rock_Range_miss f_rock_Range_miss := fok (by decide) ⟨Tryz.f80, _, a_rock_Range_miss, Tryz.func80, by decide, rfl, ok_rock_Range_miss⟩
theorem F_rock_bedded_value : FOk i_rock_bedded_value f_rock_bedded_value := fok (by decide) ⟨Tryz.f81, _, a_rock_bedded_value, Tryz.func81, by decide, rfl, ok_rock_bedded_value⟩
theorem F_tremor_all_tremor_Rule : FOk i_tremor_all_tremor_Rule f_tremor_all_tremor_Rule := fok (by decide) ⟨Tryz.f82, _, a_tremor_all_tremor_Rule, Tryz.func82, by decide, rfl, ok_tremor_all_tremor_Rule⟩
theorem F_tremor_Rule_valid : FOk i_tremor_Rule_valid f_tremor_Rule_valid := fok (by decide) ⟨Tryz.f83, _, a_tremor_Rule_valid, Tryz.func83, by decide, rfl, ok_tremor_Rule_valid⟩
theorem F_tremor_all_tremor_Event : FOk i_tremor_all_tremor_Event f_tremor_all_tremor_Event := fok (by decide) ⟨Tryz.f84, _, a_tremor_all_tremor_Event, Tryz.func84, by decide, rfl, ok_tremor_all_tremor_Event⟩
theorem F_tremor_Event_valid : FOk i_tremor_Event_valid f_tremor_Event_valid := fok (by decide) ⟨Tryz.f85, _, a_tremor_Event_valid, Tryz.func85, by decide, rfl, ok_tremor_Event_valid⟩
theorem F_tremor_within : FOk i_tremor_within f_tremor_within := fok (by decide) ⟨Tryz.f86, _, a_tremor_within, Tryz.func86, by decide, rfl, ok_tremor_within⟩
theorem F_tremor_Rule_counts : FOk i_tremor_Rule_counts f_tremor_Rule_counts := fok (by decide) ⟨Tryz.f87, _, a_tremor_Rule_counts, Tryz.func87, by decide, rfl, ok_tremor_Rule_counts⟩
theorem F_slices_ContainsFunc_tremor_Spot : FOk i_slices_ContainsFunc_tremor_Spot f_slices_ContainsFunc_tremor_Spot := fok (by decide) ⟨Tryz.f88, _, a_slices_ContainsFunc_tremor_Spot, Tryz.func88, by decide, rfl, ok_slices_ContainsFunc_tremor_Spot⟩
theorem F_tremor_all_tremor_Spot : FOk i_tremor_all_tremor_Spot f_tremor_all_tremor_Spot := fok (by decide) ⟨Tryz.f89, _, a_tremor_all_tremor_Spot, Tryz.func89, by decide, rfl, ok_tremor_all_tremor_Spot⟩
theorem F_rock_bed : FOk i_rock_bed f_rock_bed := fok (by decide) ⟨Tryz.f90, _, a_rock_bed, Tryz.func90, by decide, rfl, ok_rock_bed⟩
theorem F_rock_Bed_plan : FOk i_rock_Bed_plan f_rock_Bed_plan := fok (by decide) ⟨Tryz.f91, _, a_rock_Bed_plan, Tryz.func91, by decide, rfl, ok_rock_Bed_plan⟩
theorem F_rock_bedded_run : FOk i_rock_bedded_run f_rock_bedded_run := fok (by decide) ⟨Tryz.f92, _, a_rock_bedded_run, Tryz.func92, by decide, rfl, ok_rock_bedded_run⟩
theorem F_steam_Table_valid : FOk i_steam_Table_valid f_steam_Table_valid := fok (by decide) ⟨Tryz.f93, _, a_steam_Table_valid, Tryz.func93, by decide, rfl, ok_steam_Table_valid⟩
theorem F_steam_Table_has : FOk i_steam_Table_has f_steam_Table_has := fok (by decide) ⟨Tryz.f94, _, a_steam_Table_has, Tryz.func94, by decide, rfl, ok_steam_Table_has⟩
theorem F_steam_Stream_valid : FOk i_steam_Stream_valid f_steam_Stream_valid := fok (by decide) ⟨Tryz.f95, _, a_steam_Stream_valid, Tryz.func95, by decide, rfl, ok_steam_Stream_valid⟩
theorem F_steam_Table_at : FOk i_steam_Table_at f_steam_Table_at := fok (by decide) ⟨Tryz.f96, _, a_steam_Table_at, Tryz.func96, by decide, rfl, ok_steam_Table_at⟩
theorem F_steam_flash_of : FOk i_steam_flash_of f_steam_flash_of := fok (by decide) ⟨Tryz.f97, _, a_steam_flash_of, Tryz.func97, by decide, rfl, ok_steam_flash_of⟩
theorem F_plant_Unit_valid : FOk i_plant_Unit_valid f_plant_Unit_valid := fok (by decide) ⟨Tryz.f98, _, a_plant_Unit_valid, Tryz.func98, by decide, rfl, ok_plant_Unit_valid⟩
theorem F_plant_right : FOk i_plant_right f_plant_right := fok (by decide) ⟨Tryz.f99, _, a_plant_right, Tryz.func99, by decide, rfl, ok_plant_right⟩
theorem F_plant_Unit_capacity : FOk i_plant_Unit_capacity f_plant_Unit_capacity := fok (by decide) ⟨Tryz.f100, _, a_plant_Unit_capacity, Tryz.func100, by decide, rfl, ok_plant_Unit_capacity⟩
theorem F_plant_Unit_power : FOk i_plant_Unit_power f_plant_Unit_power := fok (by decide) ⟨Tryz.f101, _, a_plant_Unit_power, Tryz.func101, by decide, rfl, ok_plant_Unit_power⟩
theorem F_logbook_written : FOk i_logbook_written f_logbook_written := fok (by decide) ⟨Tryz.f110, _, a_logbook_written, Tryz.func110, by decide, rfl, ok_logbook_written⟩
theorem F_logbook_records : FOk i_logbook_records f_logbook_records := fok (by decide) ⟨Tryz.f111, _, a_logbook_records, Tryz.func111, by decide, rfl, ok_logbook_records⟩
theorem F_logbook_book_line : FOk i_logbook_book_line f_logbook_book_line := fok (by decide) ⟨Tryz.f113, _, a_logbook_book_line, Tryz.func113, by decide, rfl, ok_logbook_book_line⟩
theorem F_slices_ContainsFunc_string : FOk i_slices_ContainsFunc_string f_slices_ContainsFunc_string := fok (by decide) ⟨Tryz.f122, _, a_slices_ContainsFunc_string, Tryz.func122, by decide, rfl, ok_slices_ContainsFunc_string⟩
theorem F_logbook_check_1 : FOk i_logbook_check_1 f_logbook_check_1 := fok (by decide) ⟨Tryz.f123, _, a_logbook_check_1, Tryz.func123, by decide, rfl, ok_logbook_check_1⟩
theorem F_field_Field_valid : FOk i_field_Field_valid f_field_Field_valid := fok (by decide) ⟨Tryz.f128, _, a_field_Field_valid, Tryz.func128, by decide, rfl, ok_field_Field_valid⟩
theorem F_field_named : FOk i_field_named f_field_named := fok (by decide) ⟨Tryz.f129, _, a_field_named, Tryz.func129, by decide, rfl, ok_field_named⟩
theorem F_field_Field_blocks : FOk i_field_Field_blocks f_field_Field_blocks := fok (by decide) ⟨Tryz.f130, _, a_field_Field_blocks, Tryz.func130, by decide, rfl, ok_field_Field_blocks⟩
theorem F_field_all_int : FOk i_field_all_int f_field_all_int := fok (by decide) ⟨Tryz.f131, _, a_field_all_int, Tryz.func131, by decide, rfl, ok_field_all_int⟩
theorem F_field_Field_model_1 : FOk i_field_Field_model_1 f_field_Field_model_1 := fok (by decide) ⟨Tryz.f132, _, a_field_Field_model_1, Tryz.func132, by decide, rfl, ok_field_Field_model_1⟩
theorem F_field_within : FOk i_field_within f_field_within := fok (by decide) ⟨Tryz.f133, _, a_field_within, Tryz.func133, by decide, rfl, ok_field_within⟩
theorem F_field_Field_sums : FOk i_field_Field_sums f_field_Field_sums := fok (by decide) ⟨Tryz.f134, _, a_field_Field_sums, Tryz.func134, by decide, rfl, ok_field_Field_sums⟩
theorem F_field_Range_ends : FOk i_field_Range_ends f_field_Range_ends := fok (by decide) ⟨Tryz.f135, _, a_field_Range_ends, Tryz.func135, by decide, rfl, ok_field_Range_ends⟩
theorem F_field_scale_of : FOk i_field_scale_of f_field_scale_of := fok (by decide) ⟨Tryz.f136, _, a_field_scale_of, Tryz.func136, by decide, rfl, ok_field_scale_of⟩
theorem F_rock_Bed_valid : FOk i_rock_Bed_valid f_rock_Bed_valid := fok (by decide) ⟨Tryz.f137, _, a_rock_Bed_valid, Tryz.func137, by decide, rfl, ok_rock_Bed_valid⟩
theorem F_rock_within : FOk i_rock_within f_rock_within := fok (by decide) ⟨Tryz.f138, _, a_rock_within, Tryz.func138, by decide, rfl, ok_rock_within⟩
theorem F_field_CheckModels : FOk i_field_CheckModels f_field_CheckModels := fok (by decide) ⟨Tryz.f139, _, a_field_CheckModels, Tryz.func139, by decide, rfl, ok_field_CheckModels⟩
theorem F_rock_all_field_Model : FOk i_rock_all_field_Model f_rock_all_field_Model := fok (by decide) ⟨Tryz.f140, _, a_rock_all_field_Model, Tryz.func140, by decide, rfl, ok_rock_all_field_Model⟩
theorem F_rock_ready_1 : FOk i_rock_ready_1 f_rock_ready_1 := fok (by decide) ⟨Tryz.f141, _, a_rock_ready_1, Tryz.func141, by decide, rfl, ok_rock_ready_1⟩
theorem F_rock_bedded_fits : FOk i_rock_bedded_fits f_rock_bedded_fits := fok (by decide) ⟨Tryz.f142, _, a_rock_bedded_fits, Tryz.func142, by decide, rfl, ok_rock_bedded_fits⟩
theorem F_rock_Bed_size : FOk i_rock_Bed_size f_rock_Bed_size := fok (by decide) ⟨Tryz.f143, _, a_rock_Bed_size, Tryz.func143, by decide, rfl, ok_rock_Bed_size⟩
theorem F_rock_bedded_pressure : FOk i_rock_bedded_pressure f_rock_bedded_pressure := fok (by decide) ⟨Tryz.f144, _, a_rock_bedded_pressure, Tryz.func144, by decide, rfl, ok_rock_bedded_pressure⟩
theorem F_rock_tells : FOk i_rock_tells f_rock_tells := fok (by decide) ⟨Tryz.f145, _, a_rock_tells, Tryz.func145, by decide, rfl, ok_rock_tells⟩
theorem F_slices_ContainsFunc_tremor_Rule : FOk i_slices_ContainsFunc_tremor_Rule f_slices_ContainsFunc_tremor_Rule := fok (by decide) ⟨Tryz.f146, _, a_slices_ContainsFunc_tremor_Rule, Tryz.func146, by decide, rfl, ok_slices_ContainsFunc_tremor_Rule⟩
theorem F_tremor_all_tremor_Rule_1 : FOk i_tremor_all_tremor_Rule_1 f_tremor_all_tremor_Rule_1 := fok (by decide) ⟨Tryz.f147, _, a_tremor_all_tremor_Rule_1, Tryz.func147, by decide, rfl, ok_tremor_all_tremor_Rule_1⟩
theorem F_tremor_box : FOk i_tremor_box f_tremor_box := fok (by decide) ⟨Tryz.f148, _, a_tremor_box, Tryz.func148, by decide, rfl, ok_tremor_box⟩
theorem F_slices_ContainsFunc_tremor_Event : FOk i_slices_ContainsFunc_tremor_Event f_slices_ContainsFunc_tremor_Event := fok (by decide) ⟨Tryz.f149, _, a_slices_ContainsFunc_tremor_Event, Tryz.func149, by decide, rfl, ok_slices_ContainsFunc_tremor_Event⟩
theorem F_tremor_all_tremor_Event_1 : FOk i_tremor_all_tremor_Event_1 f_tremor_all_tremor_Event_1 := fok (by decide) ⟨Tryz.f150, _, a_tremor_all_tremor_Event_1, Tryz.func150, by decide, rfl, ok_tremor_all_tremor_Event_1⟩
theorem F_tremor_Event_valid_1 : FOk i_tremor_Event_valid_1 f_tremor_Event_valid_1 := fok (by decide) ⟨Tryz.f151, _, a_tremor_Event_valid_1, Tryz.func151, by decide, rfl, ok_tremor_Event_valid_1⟩
theorem F_tremor_Point_valid : FOk i_tremor_Point_valid f_tremor_Point_valid := fok (by decide) ⟨Tryz.f152, _, a_tremor_Point_valid, Tryz.func152, by decide, rfl, ok_tremor_Point_valid⟩
theorem F_slices_IndexFunc_tremor_Spot : FOk i_slices_IndexFunc_tremor_Spot f_slices_IndexFunc_tremor_Spot := fok (by decide) ⟨Tryz.f153, _, a_slices_IndexFunc_tremor_Spot, Tryz.func153, by decide, rfl, ok_slices_IndexFunc_tremor_Spot⟩
theorem F_tremor_all_tremor_Spot_1 : FOk i_tremor_all_tremor_Spot_1 f_tremor_all_tremor_Spot_1 := fok (by decide) ⟨Tryz.f154, _, a_tremor_all_tremor_Spot_1, Tryz.func154, by decide, rfl, ok_tremor_all_tremor_Spot_1⟩
theorem F_rock_Bed_rates : FOk i_rock_Bed_rates f_rock_Bed_rates := fok (by decide) ⟨Tryz.f155, _, a_rock_Bed_rates, Tryz.func155, by decide, rfl, ok_rock_Bed_rates⟩
theorem F_rock_bedded_first : FOk i_rock_bedded_first f_rock_bedded_first := fok (by decide) ⟨Tryz.f156, _, a_rock_bedded_first, Tryz.func156, by decide, rfl, ok_rock_bedded_first⟩
theorem F_rock_bedded_tick : FOk i_rock_bedded_tick f_rock_bedded_tick := fok (by decide) ⟨Tryz.f157, _, a_rock_bedded_tick, Tryz.func157, by decide, rfl, ok_rock_bedded_tick⟩
theorem F_steam_within : FOk i_steam_within f_steam_within := fok (by decide) ⟨Tryz.f158, _, a_steam_within, Tryz.func158, by decide, rfl, ok_steam_within⟩
theorem F_steam_all_steam_Row : FOk i_steam_all_steam_Row f_steam_all_steam_Row := fok (by decide) ⟨Tryz.f159, _, a_steam_all_steam_Row, Tryz.func159, by decide, rfl, ok_steam_all_steam_Row⟩
theorem F_steam_Row_alone : FOk i_steam_Row_alone f_steam_Row_alone := fok (by decide) ⟨Tryz.f160, _, a_steam_Row_alone, Tryz.func160, by decide, rfl, ok_steam_Row_alone⟩
theorem F_steam_flash_steam : FOk i_steam_flash_steam f_steam_flash_steam := fok (by decide) ⟨Tryz.f161, _, a_steam_flash_steam, Tryz.func161, by decide, rfl, ok_steam_flash_steam⟩
theorem F_plant_within : FOk i_plant_within f_plant_within := fok (by decide) ⟨Tryz.f162, _, a_plant_within, Tryz.func162, by decide, rfl, ok_plant_within⟩
theorem F_plant_all_plant_Part : FOk i_plant_all_plant_Part f_plant_all_plant_Part := fok (by decide) ⟨Tryz.f163, _, a_plant_all_plant_Part, Tryz.func163, by decide, rfl, ok_plant_all_plant_Part⟩
theorem F_plant_Unit_valid_1 : FOk i_plant_Unit_valid_1 f_plant_Unit_valid_1 := fok (by decide) ⟨Tryz.f164, _, a_plant_Unit_valid_1, Tryz.func164, by decide, rfl, ok_plant_Unit_valid_1⟩
theorem F_plant_all_steam_Stream : FOk i_plant_all_steam_Stream f_plant_all_steam_Stream := fok (by decide) ⟨Tryz.f165, _, a_plant_all_steam_Stream, Tryz.func165, by decide, rfl, ok_plant_all_steam_Stream⟩
theorem F_plant_right_1 : FOk i_plant_right_1 f_plant_right_1 := fok (by decide) ⟨Tryz.f166, _, a_plant_right_1, Tryz.func166, by decide, rfl, ok_plant_right_1⟩
theorem F_steam_CheckStream : FOk i_steam_CheckStream f_steam_CheckStream := fok (by decide) ⟨Tryz.f167, _, a_steam_CheckStream, Tryz.func167, by decide, rfl, ok_steam_CheckStream⟩
theorem F_plant_Unit_used : FOk i_plant_Unit_used f_plant_Unit_used := fok (by decide) ⟨Tryz.f168, _, a_plant_Unit_used, Tryz.func168, by decide, rfl, ok_plant_Unit_used⟩
theorem F_logbook_record : FOk i_logbook_record f_logbook_record := fok (by decide) ⟨Tryz.f173, _, a_logbook_record, Tryz.func173, by decide, rfl, ok_logbook_record⟩
theorem F_logbook_records_1 : FOk i_logbook_records_1 f_logbook_records_1 := fok (by decide) ⟨Tryz.f174, _, a_logbook_records_1, Tryz.func174, by decide, rfl, ok_logbook_records_1⟩
theorem F_slices_Equal_byte : FOk i_slices_Equal_byte f_slices_Equal_byte := fok (by decide) ⟨Tryz.f175, _, a_slices_Equal_byte, Tryz.func175, by decide, rfl, ok_slices_Equal_byte⟩
theorem F_logbook_book_line_1 : FOk i_logbook_book_line_1 f_logbook_book_line_1 := fok (by decide) ⟨Tryz.f177, _, a_logbook_book_line_1, Tryz.func177, by decide, rfl, ok_logbook_book_line_1⟩
theorem F_logbook_parsed : FOk i_logbook_parsed f_logbook_parsed := fok (by decide) ⟨Tryz.f178, _, a_logbook_parsed, Tryz.func178, by decide, rfl, ok_logbook_parsed⟩
theorem F_slices_IndexFunc_string : FOk i_slices_IndexFunc_string f_slices_IndexFunc_string := fok (by decide) ⟨Tryz.f201, _, a_slices_IndexFunc_string, Tryz.func201, by decide, rfl, ok_slices_IndexFunc_string⟩
theorem F_slices_ContainsFunc_int : FOk i_slices_ContainsFunc_int f_slices_ContainsFunc_int := fok (by decide) ⟨Tryz.f206, _, a_slices_ContainsFunc_int, Tryz.func206, by decide, rfl, ok_slices_ContainsFunc_int⟩
theorem F_field_all_int_1 : FOk i_field_all_int_1 f_field_all_int_1 := fok (by decide) ⟨Tryz.f207, _, a_field_all_int_1, Tryz.func207, by decide, rfl, ok_field_all_int_1⟩
theorem F_field_CheckField : FOk i_field_CheckField f_field_CheckField := fok (by decide) ⟨Tryz.f208, _, a_field_CheckField, Tryz.func208, by decide, rfl, ok_field_CheckField⟩
theorem F_steam_CheckTable : FOk i_steam_CheckTable f_steam_CheckTable := fok (by decide) ⟨Tryz.f209, _, a_steam_CheckTable, Tryz.func209, by decide, rfl, ok_steam_CheckTable⟩
theorem F_rock_all_rock_Bore : FOk i_rock_all_rock_Bore f_rock_all_rock_Bore := fok (by decide) ⟨Tryz.f210, _, a_rock_all_rock_Bore, Tryz.func210, by decide, rfl, ok_rock_all_rock_Bore⟩
theorem F_rock_Bed_valid_1 : FOk i_rock_Bed_valid_1 f_rock_Bed_valid_1 := fok (by decide) ⟨Tryz.f211, _, a_rock_Bed_valid_1, Tryz.func211, by decide, rfl, ok_rock_Bed_valid_1⟩
theorem F_field_CheckModels_1 : FOk i_field_CheckModels_1 f_field_CheckModels_1 := fok (by decide) ⟨Tryz.f212, _, a_field_CheckModels_1, Tryz.func212, by decide, rfl, ok_field_CheckModels_1⟩
theorem F_field_Field_models : FOk i_field_Field_models f_field_Field_models := fok (by decide) ⟨Tryz.f213, _, a_field_Field_models, Tryz.func213, by decide, rfl, ok_field_Field_models⟩
theorem F_slices_ContainsFunc_field_Model : FOk i_slices_ContainsFunc_field_Model f_slices_ContainsFunc_field_Model := fok (by decide) ⟨Tryz.f214, _, a_slices_ContainsFunc_field_Model, Tryz.func214, by decide, rfl, ok_slices_ContainsFunc_field_Model⟩
theorem F_rock_all_field_Model_1 : FOk i_rock_all_field_Model_1 f_rock_all_field_Model_1 := fok (by decide) ⟨Tryz.f215, _, a_rock_all_field_Model_1, Tryz.func215, by decide, rfl, ok_rock_all_field_Model_1⟩
theorem F_rock_all_int : FOk i_rock_all_int f_rock_all_int := fok (by decide) ⟨Tryz.f216, _, a_rock_all_int, Tryz.func216, by decide, rfl, ok_rock_all_int⟩
theorem F_rock_bedded_kind : FOk i_rock_bedded_kind f_rock_bedded_kind := fok (by decide) ⟨Tryz.f217, _, a_rock_bedded_kind, Tryz.func217, by decide, rfl, ok_rock_bedded_kind⟩
theorem F_rock_bedded_fits_1 : FOk i_rock_bedded_fits_1 f_rock_bedded_fits_1 := fok (by decide) ⟨Tryz.f218, _, a_rock_bedded_fits_1, Tryz.func218, by decide, rfl, ok_rock_bedded_fits_1⟩
theorem F_rock_bedded_weight : FOk i_rock_bedded_weight f_rock_bedded_weight := fok (by decide) ⟨Tryz.f219, _, a_rock_bedded_weight, Tryz.func219, by decide, rfl, ok_rock_bedded_weight⟩
theorem F_rock_down : FOk i_rock_down f_rock_down := fok (by decide) ⟨Tryz.f220, _, a_rock_down, Tryz.func220, by decide, rfl, ok_rock_down⟩
theorem F_rock_bedded_hold : FOk i_rock_bedded_hold f_rock_bedded_hold := fok (by decide) ⟨Tryz.f221, _, a_rock_bedded_hold, Tryz.func221, by decide, rfl, ok_rock_bedded_hold⟩
theorem F_rock_Yield_mass : FOk i_rock_Yield_mass f_rock_Yield_mass := fok (by decide) ⟨Tryz.f222, _, a_rock_Yield_mass, Tryz.func222, by decide, rfl, ok_rock_Yield_mass⟩
theorem F_rock_Yield_warmth : FOk i_rock_Yield_warmth f_rock_Yield_warmth := fok (by decide) ⟨Tryz.f223, _, a_rock_Yield_warmth, Tryz.func223, by decide, rfl, ok_rock_Yield_warmth⟩
theorem F_rock_Yield_stain : FOk i_rock_Yield_stain f_rock_Yield_stain := fok (by decide) ⟨Tryz.f224, _, a_rock_Yield_stain, Tryz.func224, by decide, rfl, ok_rock_Yield_stain⟩
theorem F_slices_IndexFunc_tremor_Rule : FOk i_slices_IndexFunc_tremor_Rule f_slices_IndexFunc_tremor_Rule := fok (by decide) ⟨Tryz.f225, _, a_slices_IndexFunc_tremor_Rule, Tryz.func225, by decide, rfl, ok_slices_IndexFunc_tremor_Rule⟩
theorem F_slices_IndexFunc_tremor_Event : FOk i_slices_IndexFunc_tremor_Event f_slices_IndexFunc_tremor_Event := fok (by decide) ⟨Tryz.f226, _, a_slices_IndexFunc_tremor_Event, Tryz.func226, by decide, rfl, ok_slices_IndexFunc_tremor_Event⟩
theorem F_tremor_all_int : FOk i_tremor_all_int f_tremor_all_int := fok (by decide) ⟨Tryz.f227, _, a_tremor_all_int, Tryz.func227, by decide, rfl, ok_tremor_all_int⟩
theorem F_tremor_Point_valid_1 : FOk i_tremor_Point_valid_1 f_tremor_Point_valid_1 := fok (by decide) ⟨Tryz.f228, _, a_tremor_Point_valid_1, Tryz.func228, by decide, rfl, ok_tremor_Point_valid_1⟩
theorem F_rock_Bed_rates_1 : FOk i_rock_Bed_rates_1 f_rock_Bed_rates_1 := fok (by decide) ⟨Tryz.f229, _, a_rock_Bed_rates_1, Tryz.func229, by decide, rfl, ok_rock_Bed_rates_1⟩
theorem F_rock_bedded_warm : FOk i_rock_bedded_warm f_rock_bedded_warm := fok (by decide) ⟨Tryz.f230, _, a_rock_bedded_warm, Tryz.func230, by decide, rfl, ok_rock_bedded_warm⟩
theorem F_slices_Clone_rock_State_rock_Block : FOk i_slices_Clone_rock_State_rock_Block f_slices_Clone_rock_State_rock_Block := fok (by decide) ⟨Tryz.f231, _, a_slices_Clone_rock_State_rock_Block, Tryz.func231, by decide, rfl, ok_slices_Clone_rock_State_rock_Block⟩
theorem F_rock_bedded_flows : FOk i_rock_bedded_flows f_rock_bedded_flows := fok (by decide) ⟨Tryz.f232, _, a_rock_bedded_flows, Tryz.func232, by decide, rfl, ok_rock_bedded_flows⟩
theorem F_rock_Block_move : FOk i_rock_Block_move f_rock_Block_move := fok (by decide) ⟨Tryz.f233, _, a_rock_Block_move, Tryz.func233, by decide, rfl, ok_rock_Block_move⟩
theorem F_rock_Bore_given : FOk i_rock_Bore_given f_rock_Bore_given := fok (by decide) ⟨Tryz.f234, _, a_rock_Bore_given, Tryz.func234, by decide, rfl, ok_rock_Bore_given⟩
theorem F_rock_Block_out : FOk i_rock_Block_out f_rock_Block_out := fok (by decide) ⟨Tryz.f235, _, a_rock_Block_out, Tryz.func235, by decide, rfl, ok_rock_Block_out⟩
theorem F_rock_bedded_fed : FOk i_rock_bedded_fed f_rock_bedded_fed := fok (by decide) ⟨Tryz.f236, _, a_rock_bedded_fed, Tryz.func236, by decide, rfl, ok_rock_bedded_fed⟩
theorem F_rock_bedded_state : FOk i_rock_bedded_state f_rock_bedded_state := fok (by decide) ⟨Tryz.f237, _, a_rock_bedded_state, Tryz.func237, by decide, rfl, ok_rock_bedded_state⟩
theorem F_slices_ContainsFunc_steam_Row : FOk i_slices_ContainsFunc_steam_Row f_slices_ContainsFunc_steam_Row := fok (by decide) ⟨Tryz.f238, _, a_slices_ContainsFunc_steam_Row, Tryz.func238, by decide, rfl, ok_slices_ContainsFunc_steam_Row⟩
theorem F_steam_all_steam_Row_1 : FOk i_steam_all_steam_Row_1 f_steam_all_steam_Row_1 := fok (by decide) ⟨Tryz.f239, _, a_steam_all_steam_Row_1, Tryz.func239, by decide, rfl, ok_steam_all_steam_Row_1⟩
theorem F_slices_ContainsFunc_plant_Part : FOk i_slices_ContainsFunc_plant_Part f_slices_ContainsFunc_plant_Part := fok (by decide) ⟨Tryz.f240, _, a_slices_ContainsFunc_plant_Part, Tryz.func240, by decide, rfl, ok_slices_ContainsFunc_plant_Part⟩
theorem F_plant_all_plant_Part_1 : FOk i_plant_all_plant_Part_1 f_plant_all_plant_Part_1 := fok (by decide) ⟨Tryz.f241, _, a_plant_all_plant_Part_1, Tryz.func241, by decide, rfl, ok_plant_all_plant_Part_1⟩
theorem F_slices_ContainsFunc_steam_Stream : FOk i_slices_ContainsFunc_steam_Stream f_slices_ContainsFunc_steam_Stream := fok (by decide) ⟨Tryz.f242, _, a_slices_ContainsFunc_steam_Stream, Tryz.func242, by decide, rfl, ok_slices_ContainsFunc_steam_Stream⟩
theorem F_plant_all_steam_Stream_1 : FOk i_plant_all_steam_Stream_1 f_plant_all_steam_Stream_1 := fok (by decide) ⟨Tryz.f243, _, a_plant_all_steam_Stream_1, Tryz.func243, by decide, rfl, ok_plant_all_steam_Stream_1⟩
theorem F_plant_Unit_used_1 : FOk i_plant_Unit_used_1 f_plant_Unit_used_1 := fok (by decide) ⟨Tryz.f244, _, a_plant_Unit_used_1, Tryz.func244, by decide, rfl, ok_plant_Unit_used_1⟩
theorem F_logbook_sum : FOk i_logbook_sum f_logbook_sum := fok (by decide) ⟨Tryz.f245, _, a_logbook_sum, Tryz.func245, by decide, rfl, ok_logbook_sum⟩
theorem F_logbook_words : FOk i_logbook_words f_logbook_words := fok (by decide) ⟨Tryz.f247, _, a_logbook_words, Tryz.func247, by decide, rfl, ok_logbook_words⟩
theorem F_logbook_ask : FOk i_logbook_ask f_logbook_ask := fok (by decide) ⟨Tryz.f248, _, a_logbook_ask, Tryz.func248, by decide, rfl, ok_logbook_ask⟩
theorem F_logbook_number : FOk i_logbook_number f_logbook_number := fok (by decide) ⟨Tryz.f249, _, a_logbook_number, Tryz.func249, by decide, rfl, ok_logbook_number⟩
theorem F_slices_IndexFunc_int : FOk i_slices_IndexFunc_int f_slices_IndexFunc_int := fok (by decide) ⟨Tryz.f270, _, a_slices_IndexFunc_int, Tryz.func270, by decide, rfl, ok_slices_IndexFunc_int⟩
theorem F_slices_ContainsFunc_rock_Bore : FOk i_slices_ContainsFunc_rock_Bore f_slices_ContainsFunc_rock_Bore := fok (by decide) ⟨Tryz.f271, _, a_slices_ContainsFunc_rock_Bore, Tryz.func271, by decide, rfl, ok_slices_ContainsFunc_rock_Bore⟩
theorem F_rock_all_rock_Bore_1 : FOk i_rock_all_rock_Bore_1 f_rock_all_rock_Bore_1 := fok (by decide) ⟨Tryz.f272, _, a_rock_all_rock_Bore_1, Tryz.func272, by decide, rfl, ok_rock_all_rock_Bore_1⟩
theorem F_field_each_field_Model : FOk i_field_each_field_Model f_field_each_field_Model := fok (by decide) ⟨Tryz.f273, _, a_field_each_field_Model, Tryz.func273, by decide, rfl, ok_field_each_field_Model⟩
theorem F_field_Field_models_1 : FOk i_field_Field_models_1 f_field_Field_models_1 := fok (by decide) ⟨Tryz.f274, _, a_field_Field_models_1, Tryz.func274, by decide, rfl, ok_field_Field_models_1⟩
theorem F_slices_IndexFunc_field_Model : FOk i_slices_IndexFunc_field_Model f_slices_IndexFunc_field_Model := fok (by decide) ⟨Tryz.f275, _, a_slices_IndexFunc_field_Model, Tryz.func275, by decide, rfl, ok_slices_IndexFunc_field_Model⟩
theorem F_rock_all_int_1 : FOk i_rock_all_int_1 f_rock_all_int_1 := fok (by decide) ⟨Tryz.f276, _, a_rock_all_int_1, Tryz.func276, by decide, rfl, ok_rock_all_int_1⟩
theorem F_tremor_all_int_1 : FOk i_tremor_all_int_1 f_tremor_all_int_1 := fok (by decide) ⟨Tryz.f277, _, a_tremor_all_int_1, Tryz.func277, by decide, rfl, ok_tremor_all_int_1⟩
theorem F_rock_bedded_pressures : FOk i_rock_bedded_pressures f_rock_bedded_pressures := fok (by decide) ⟨Tryz.f278, _, a_rock_bedded_pressures, Tryz.func278, by decide, rfl, ok_rock_bedded_pressures⟩
theorem F_rock_Bed_links : FOk i_rock_Bed_links f_rock_Bed_links := fok (by decide) ⟨Tryz.f279, _, a_rock_Bed_links, Tryz.func279, by decide, rfl, ok_rock_Bed_links⟩
theorem F_rock_bedded_open : FOk i_rock_bedded_open f_rock_bedded_open := fok (by decide) ⟨Tryz.f280, _, a_rock_bedded_open, Tryz.func280, by decide, rfl, ok_rock_bedded_open⟩
theorem F_rock_bedded_feed : FOk i_rock_bedded_feed f_rock_bedded_feed := fok (by decide) ⟨Tryz.f281, _, a_rock_bedded_feed, Tryz.func281, by decide, rfl, ok_rock_bedded_feed⟩
theorem F_rock_all_rock_Block : FOk i_rock_all_rock_Block f_rock_all_rock_Block := fok (by decide) ⟨Tryz.f282, _, a_rock_all_rock_Block, Tryz.func282, by decide, rfl, ok_rock_all_rock_Block⟩
theorem F_rock_Block_valid : FOk i_rock_Block_valid f_rock_Block_valid := fok (by decide) ⟨Tryz.f283, _, a_rock_Block_valid, Tryz.func283, by decide, rfl, ok_rock_Block_valid⟩
theorem F_slices_IndexFunc_steam_Row : FOk i_slices_IndexFunc_steam_Row f_slices_IndexFunc_steam_Row := fok (by decide) ⟨Tryz.f284, _, a_slices_IndexFunc_steam_Row, Tryz.func284, by decide, rfl, ok_slices_IndexFunc_steam_Row⟩
theorem F_slices_IndexFunc_plant_Part : FOk i_slices_IndexFunc_plant_Part f_slices_IndexFunc_plant_Part := fok (by decide) ⟨Tryz.f285, _, a_slices_IndexFunc_plant_Part, Tryz.func285, by decide, rfl, ok_slices_IndexFunc_plant_Part⟩
theorem F_slices_IndexFunc_steam_Stream : FOk i_slices_IndexFunc_steam_Stream f_slices_IndexFunc_steam_Stream := fok (by decide) ⟨Tryz.f286, _, a_slices_IndexFunc_steam_Stream, Tryz.func286, by decide, rfl, ok_slices_IndexFunc_steam_Stream⟩
theorem F_logbook_book_field : FOk i_logbook_book_field f_logbook_book_field := fok (by decide) ⟨Tryz.f288, _, a_logbook_book_field, Tryz.func288, by decide, rfl, ok_logbook_book_field⟩
theorem F_logbook_book_table : FOk i_logbook_book_table f_logbook_book_table := fok (by decide) ⟨Tryz.f289, _, a_logbook_book_table, Tryz.func289, by decide, rfl, ok_logbook_book_table⟩
theorem F_logbook_book_bed : FOk i_logbook_book_bed f_logbook_book_bed := fok (by decide) ⟨Tryz.f290, _, a_logbook_book_bed, Tryz.func290, by decide, rfl, ok_logbook_book_bed⟩
theorem F_logbook_book_well : FOk i_logbook_book_well f_logbook_book_well := fok (by decide) ⟨Tryz.f291, _, a_logbook_book_well, Tryz.func291, by decide, rfl, ok_logbook_book_well⟩
theorem F_logbook_book_model : FOk i_logbook_book_model f_logbook_book_model := fok (by decide) ⟨Tryz.f292, _, a_logbook_book_model, Tryz.func292, by decide, rfl, ok_logbook_book_model⟩
theorem F_logbook_book_log : FOk i_logbook_book_log f_logbook_book_log := fok (by decide) ⟨Tryz.f293, _, a_logbook_book_log, Tryz.func293, by decide, rfl, ok_logbook_book_log⟩
theorem F_logbook_book_rule : FOk i_logbook_book_rule f_logbook_book_rule := fok (by decide) ⟨Tryz.f294, _, a_logbook_book_rule, Tryz.func294, by decide, rfl, ok_logbook_book_rule⟩
theorem F_logbook_book_keep : FOk i_logbook_book_keep f_logbook_book_keep := fok (by decide) ⟨Tryz.f295, _, a_logbook_book_keep, Tryz.func295, by decide, rfl, ok_logbook_book_keep⟩
theorem F_logbook_book_quake : FOk i_logbook_book_quake f_logbook_book_quake := fok (by decide) ⟨Tryz.f296, _, a_logbook_book_quake, Tryz.func296, by decide, rfl, ok_logbook_book_quake⟩
theorem F_logbook_book_tick : FOk i_logbook_book_tick f_logbook_book_tick := fok (by decide) ⟨Tryz.f297, _, a_logbook_book_tick, Tryz.func297, by decide, rfl, ok_logbook_book_tick⟩
theorem F_logbook_book_read : FOk i_logbook_book_read f_logbook_book_read := fok (by decide) ⟨Tryz.f298, _, a_logbook_book_read, Tryz.func298, by decide, rfl, ok_logbook_book_read⟩
theorem F_logbook_book_unit : FOk i_logbook_book_unit f_logbook_book_unit := fok (by decide) ⟨Tryz.f299, _, a_logbook_book_unit, Tryz.func299, by decide, rfl, ok_logbook_book_unit⟩
theorem F_logbook_book_sell : FOk i_logbook_book_sell f_logbook_book_sell := fok (by decide) ⟨Tryz.f300, _, a_logbook_book_sell, Tryz.func300, by decide, rfl, ok_logbook_book_sell⟩
theorem F_slices_IndexFunc_rock_Bore : FOk i_slices_IndexFunc_rock_Bore f_slices_IndexFunc_rock_Bore := fok (by decide) ⟨Tryz.f320, _, a_slices_IndexFunc_rock_Bore, Tryz.func320, by decide, rfl, ok_slices_IndexFunc_rock_Bore⟩
theorem F_rock_Bed_links_1 : FOk i_rock_Bed_links_1 f_rock_Bed_links_1 := fok (by decide) ⟨Tryz.f321, _, a_rock_Bed_links_1, Tryz.func321, by decide, rfl, ok_rock_Bed_links_1⟩
theorem F_slices_ContainsFunc_rock_Block : FOk i_slices_ContainsFunc_rock_Block f_slices_ContainsFunc_rock_Block := fok (by decide) ⟨Tryz.f322, _, a_slices_ContainsFunc_rock_Block, Tryz.func322, by decide, rfl, ok_slices_ContainsFunc_rock_Block⟩
theorem F_rock_all_rock_Block_1 : FOk i_rock_all_rock_Block_1 f_rock_all_rock_Block_1 := fok (by decide) ⟨Tryz.f323, _, a_rock_all_rock_Block_1, Tryz.func323, by decide, rfl, ok_rock_all_rock_Block_1⟩
theorem F_logbook_must : FOk i_logbook_must f_logbook_must := fok (by decide) ⟨Tryz.f327, _, a_logbook_must, Tryz.func327, by decide, rfl, ok_logbook_must⟩
theorem F_rock_CheckBed : FOk i_rock_CheckBed f_rock_CheckBed := fok (by decide) ⟨Tryz.f328, _, a_rock_CheckBed, Tryz.func328, by decide, rfl, ok_rock_CheckBed⟩
theorem F_slices_Clone_rock_Bore : FOk i_slices_Clone_rock_Bore f_slices_Clone_rock_Bore := fok (by decide) ⟨Tryz.f329, _, a_slices_Clone_rock_Bore, Tryz.func329, by decide, rfl, ok_slices_Clone_rock_Bore⟩
theorem F_slices_ContainsFunc_logbook_Entry : FOk i_slices_ContainsFunc_logbook_Entry f_slices_ContainsFunc_logbook_Entry := fok (by decide) ⟨Tryz.f330, _, a_slices_ContainsFunc_logbook_Entry, Tryz.func330, by decide, rfl, ok_slices_ContainsFunc_logbook_Entry⟩
theorem F_logbook_book_model_1 : FOk i_logbook_book_model_1 f_logbook_book_model_1 := fok (by decide) ⟨Tryz.f331, _, a_logbook_book_model_1, Tryz.func331, by decide, rfl, ok_logbook_book_model_1⟩
theorem F_rock_Start : FOk i_rock_Start f_rock_Start := fok (by decide) ⟨Tryz.f332, _, a_rock_Start, Tryz.func332, by decide, rfl, ok_rock_Start⟩
theorem F_field_CheckMeasures : FOk i_field_CheckMeasures f_field_CheckMeasures := fok (by decide) ⟨Tryz.f333, _, a_field_CheckMeasures, Tryz.func333, by decide, rfl, ok_field_CheckMeasures⟩
theorem F_logbook_book_strike : FOk i_logbook_book_strike f_logbook_book_strike := fok (by decide) ⟨Tryz.f334, _, a_logbook_book_strike, Tryz.func334, by decide, rfl, ok_logbook_book_strike⟩
theorem F_logbook_book_log_1 : FOk i_logbook_book_log_1 f_logbook_book_log_1 := fok (by decide) ⟨Tryz.f335, _, a_logbook_book_log_1, Tryz.func335, by decide, rfl, ok_logbook_book_log_1⟩
theorem F_tremor_Inject : FOk i_tremor_Inject f_tremor_Inject := fok (by decide) ⟨Tryz.f336, _, a_tremor_Inject, Tryz.func336, by decide, rfl, ok_tremor_Inject⟩
theorem F_logbook_book_left : FOk i_logbook_book_left f_logbook_book_left := fok (by decide) ⟨Tryz.f337, _, a_logbook_book_left, Tryz.func337, by decide, rfl, ok_logbook_book_left⟩
theorem F_slices_Clone_L_int : FOk i_slices_Clone_L_int f_slices_Clone_L_int := fok (by decide) ⟨Tryz.f338, _, a_slices_Clone_L_int, Tryz.func338, by decide, rfl, ok_slices_Clone_L_int⟩
theorem F_logbook_book_read_1 : FOk i_logbook_book_read_1 f_logbook_book_read_1 := fok (by decide) ⟨Tryz.f339, _, a_logbook_book_read_1, Tryz.func339, by decide, rfl, ok_logbook_book_read_1⟩
theorem F_plant_CheckUnit : FOk i_plant_CheckUnit f_plant_CheckUnit := fok (by decide) ⟨Tryz.f340, _, a_plant_CheckUnit, Tryz.func340, by decide, rfl, ok_plant_CheckUnit⟩
theorem F_logbook_span : FOk i_logbook_span f_logbook_span := fok (by decide) ⟨Tryz.f341, _, a_logbook_span, Tryz.func341, by decide, rfl, ok_logbook_span⟩
theorem F_slices_IndexFunc_rock_Block : FOk i_slices_IndexFunc_rock_Block f_slices_IndexFunc_rock_Block := fok (by decide) ⟨Tryz.f347, _, a_slices_IndexFunc_rock_Block, Tryz.func347, by decide, rfl, ok_slices_IndexFunc_rock_Block⟩
theorem F_field_CheckMeasures_1 : FOk i_field_CheckMeasures_1 f_field_CheckMeasures_1 := fok (by decide) ⟨Tryz.f352, _, a_field_CheckMeasures_1, Tryz.func352, by decide, rfl, ok_field_CheckMeasures_1⟩
theorem F_field_Field_measures : FOk i_field_Field_measures f_field_Field_measures := fok (by decide) ⟨Tryz.f353, _, a_field_Field_measures, Tryz.func353, by decide, rfl, ok_field_Field_measures⟩
theorem F_tremor_Inject_1 : FOk i_tremor_Inject_1 f_tremor_Inject_1 := fok (by decide) ⟨Tryz.f354, _, a_tremor_Inject_1, Tryz.func354, by decide, rfl, ok_tremor_Inject_1⟩
theorem F_tremor_all_uint8 : FOk i_tremor_all_uint8 f_tremor_all_uint8 := fok (by decide) ⟨Tryz.f355, _, a_tremor_all_uint8, Tryz.func355, by decide, rfl, ok_tremor_all_uint8⟩
theorem F_tremor_Inject_2 : FOk i_tremor_Inject_2 f_tremor_Inject_2 := fok (by decide) ⟨Tryz.f356, _, a_tremor_Inject_2, Tryz.func356, by decide, rfl, ok_tremor_Inject_2⟩
theorem F_logbook_filter_logbook_Entry : FOk i_logbook_filter_logbook_Entry f_logbook_filter_logbook_Entry := fok (by decide) ⟨Tryz.f357, _, a_logbook_filter_logbook_Entry, Tryz.func357, by decide, rfl, ok_logbook_filter_logbook_Entry⟩
theorem F_logbook_book_left_1 : FOk i_logbook_book_left_1 f_logbook_book_left_1 := fok (by decide) ⟨Tryz.f358, _, a_logbook_book_left_1, Tryz.func358, by decide, rfl, ok_logbook_book_left_1⟩
theorem F_slices_Min_int : FOk i_slices_Min_int f_slices_Min_int := fok (by decide) ⟨Tryz.f359, _, a_slices_Min_int, Tryz.func359, by decide, rfl, ok_slices_Min_int⟩
theorem F_slices_Max_int : FOk i_slices_Max_int f_slices_Max_int := fok (by decide) ⟨Tryz.f360, _, a_slices_Max_int, Tryz.func360, by decide, rfl, ok_slices_Max_int⟩
theorem F_field_each_field_Measure : FOk i_field_each_field_Measure f_field_each_field_Measure := fok (by decide) ⟨Tryz.f371, _, a_field_each_field_Measure, Tryz.func371, by decide, rfl, ok_field_each_field_Measure⟩
theorem F_field_Field_measures_1 : FOk i_field_Field_measures_1 f_field_Field_measures_1 := fok (by decide) ⟨Tryz.f372, _, a_field_Field_measures_1, Tryz.func372, by decide, rfl, ok_field_Field_measures_1⟩
theorem F_slices_ContainsFunc_uint8 : FOk i_slices_ContainsFunc_uint8 f_slices_ContainsFunc_uint8 := fok (by decide) ⟨Tryz.f373, _, a_slices_ContainsFunc_uint8, Tryz.func373, by decide, rfl, ok_slices_ContainsFunc_uint8⟩
theorem F_tremor_all_uint8_1 : FOk i_tremor_all_uint8_1 f_tremor_all_uint8_1 := fok (by decide) ⟨Tryz.f374, _, a_tremor_all_uint8_1, Tryz.func374, by decide, rfl, ok_tremor_all_uint8_1⟩
theorem F_slices_IndexFunc_uint8 : FOk i_slices_IndexFunc_uint8 f_slices_IndexFunc_uint8 := fok (by decide) ⟨Tryz.f380, _, a_slices_IndexFunc_uint8, Tryz.func380, by decide, rfl, ok_slices_IndexFunc_uint8⟩
theorem F_slices_Delete_string : FOk (1000000 + i_slices_Delete_string) ⟨9, [], .exit 0⟩ := nok nat_slices_Delete_string
theorem F_strings_Builder_WriteString : FOk (1000000 + i_strings_Builder_WriteString) ⟨5245543, [], .exit 0⟩ := nok nat_strings_Builder_WriteString
theorem F_strings_Join : FOk (1000000 + i_strings_Join) ⟨5, [], .exit 0⟩ := nok nat_strings_Join
theorem F_strconv_Itoa : FOk (1000000 + i_strconv_Itoa) ⟨3, [], .exit 0⟩ := nok nat_strconv_Itoa
theorem F_strings_Builder_String : FOk (1000000 + i_strings_Builder_String) ⟨5245544, [], .exit 0⟩ := nok nat_strings_Builder_String
theorem F_strings_Split : FOk (1000000 + i_strings_Split) ⟨6, [], .exit 0⟩ := nok nat_strings_Split
theorem F_strconv_Atoi : FOk (1000000 + i_strconv_Atoi) ⟨7636, [], .exit 0⟩ := nok nat_strconv_Atoi
theorem FAll : ∀ p ∈ tbl, FOk p.1 p.2 := by
  simp only [tbl, List.forall_mem_cons]
  exact ⟨F_law12_LogbookNames, F_law12_awake, F_logbook_Fate, F_logbook_Depends, F_law12_ints, F_logbook_Report, F_logbook_Run, F_field_Sum, F_rock_Strikes, F_tremor_Light, F_rock_Play, F_steam_Flash, F_plant_Expand, F_law12_texts, F_logbook_Write, F_logbook_Recover, F_law12_day, F_logbook_check, F_logbook_run, F_slices_IndexFunc_logbook_Entry, F_logbook_Fate_1, F_logbook_within, F_slices_Clone_string, F_logbook_Report_1, F_logbook_book_colour, F_logbook_Range_text, F_field_first, F_field_Field_shape, F_field_Sum_1, F_field_Field_model, F_field_Sum_2, F_field_Field_measure, F_field_Field_weighs, F_rock_ready, F_rock_Bed_reading, F_rock_caught, F_rock_runs, F_rock_Range_miss, F_rock_bedded_value, F_tremor_all_tremor_Rule, F_tremor_Rule_valid, F_tremor_all_tremor_Event, F_tremor_Event_valid, F_tremor_within, F_tremor_Rule_counts, F_slices_ContainsFunc_tremor_Spot, F_tremor_all_tremor_Spot, F_rock_bed, F_rock_Bed_plan, F_rock_bedded_run, F_steam_Table_valid, F_steam_Table_has, F_steam_Stream_valid, F_steam_Table_at, F_steam_flash_of, F_plant_Unit_valid, F_plant_right, F_plant_Unit_capacity, F_plant_Unit_power, F_logbook_written, F_logbook_records, F_logbook_book_line, F_slices_ContainsFunc_string, F_logbook_check_1, F_field_Field_valid, F_field_named, F_field_Field_blocks, F_field_all_int, F_field_Field_model_1, F_field_within, F_field_Field_sums, F_field_Range_ends, F_field_scale_of, F_rock_Bed_valid, F_rock_within, F_field_CheckModels, F_rock_all_field_Model, F_rock_ready_1, F_rock_bedded_fits, F_rock_Bed_size, F_rock_bedded_pressure, F_rock_tells, F_slices_ContainsFunc_tremor_Rule, F_tremor_all_tremor_Rule_1, F_tremor_box, F_slices_ContainsFunc_tremor_Event, F_tremor_all_tremor_Event_1, F_tremor_Event_valid_1, F_tremor_Point_valid, F_slices_IndexFunc_tremor_Spot, F_tremor_all_tremor_Spot_1, F_rock_Bed_rates, F_rock_bedded_first, F_rock_bedded_tick, F_steam_within, F_steam_all_steam_Row, F_steam_Row_alone, F_steam_flash_steam, F_plant_within, F_plant_all_plant_Part, F_plant_Unit_valid_1, F_plant_all_steam_Stream, F_plant_right_1, F_steam_CheckStream, F_plant_Unit_used, F_logbook_record, F_logbook_records_1, F_slices_Equal_byte, F_logbook_book_line_1, F_logbook_parsed, F_slices_IndexFunc_string, F_slices_ContainsFunc_int, F_field_all_int_1, F_field_CheckField, F_steam_CheckTable, F_rock_all_rock_Bore, F_rock_Bed_valid_1, F_field_CheckModels_1, F_field_Field_models, F_slices_ContainsFunc_field_Model, F_rock_all_field_Model_1, F_rock_all_int, F_rock_bedded_kind, F_rock_bedded_fits_1, F_rock_bedded_weight, F_rock_down, F_rock_bedded_hold, F_rock_Yield_mass, F_rock_Yield_warmth, F_rock_Yield_stain, F_slices_IndexFunc_tremor_Rule, F_slices_IndexFunc_tremor_Event, F_tremor_all_int, F_tremor_Point_valid_1, F_rock_Bed_rates_1, F_rock_bedded_warm, F_slices_Clone_rock_State_rock_Block, F_rock_bedded_flows, F_rock_Block_move, F_rock_Bore_given, F_rock_Block_out, F_rock_bedded_fed, F_rock_bedded_state, F_slices_ContainsFunc_steam_Row, F_steam_all_steam_Row_1, F_slices_ContainsFunc_plant_Part, F_plant_all_plant_Part_1, F_slices_ContainsFunc_steam_Stream, F_plant_all_steam_Stream_1, F_plant_Unit_used_1, F_logbook_sum, F_logbook_words, F_logbook_ask, F_logbook_number, F_slices_IndexFunc_int, F_slices_ContainsFunc_rock_Bore, F_rock_all_rock_Bore_1, F_field_each_field_Model, F_field_Field_models_1, F_slices_IndexFunc_field_Model, F_rock_all_int_1, F_tremor_all_int_1, F_rock_bedded_pressures, F_rock_Bed_links, F_rock_bedded_open, F_rock_bedded_feed, F_rock_all_rock_Block, F_rock_Block_valid, F_slices_IndexFunc_steam_Row, F_slices_IndexFunc_plant_Part, F_slices_IndexFunc_steam_Stream, F_logbook_book_field, F_logbook_book_table, F_logbook_book_bed, F_logbook_book_well, F_logbook_book_model, F_logbook_book_log, F_logbook_book_rule, F_logbook_book_keep, F_logbook_book_quake, F_logbook_book_tick, F_logbook_book_read, F_logbook_book_unit, F_logbook_book_sell, F_slices_IndexFunc_rock_Bore, F_rock_Bed_links_1, F_slices_ContainsFunc_rock_Block, F_rock_all_rock_Block_1, F_logbook_must, F_rock_CheckBed, F_slices_Clone_rock_Bore, F_slices_ContainsFunc_logbook_Entry, F_logbook_book_model_1, F_rock_Start, F_field_CheckMeasures, F_logbook_book_strike, F_logbook_book_log_1, F_tremor_Inject, F_logbook_book_left, F_slices_Clone_L_int, F_logbook_book_read_1, F_plant_CheckUnit, F_logbook_span, F_slices_IndexFunc_rock_Block, F_field_CheckMeasures_1, F_field_Field_measures, F_tremor_Inject_1, F_tremor_all_uint8, F_tremor_Inject_2, F_logbook_filter_logbook_Entry, F_logbook_book_left_1, F_slices_Min_int, F_slices_Max_int, F_field_each_field_Measure, F_field_Field_measures_1, F_slices_ContainsFunc_uint8, F_tremor_all_uint8_1, F_slices_IndexFunc_uint8, F_slices_Delete_string, F_strings_Builder_WriteString, F_strings_Join, F_strconv_Itoa, F_strings_Builder_String, F_strings_Split, F_strconv_Atoi, by simp⟩
theorem TT : TOk Tryz.prog T := by
  intro f fn h
  have h' : ∃ p, tbl.find? (fun p => p.1 == f) = some p ∧ p.2 = fn := by simpa [T] using h
  obtain ⟨p, h1, h2⟩ := h'
  have h3 := List.mem_of_find?_eq_some h1
  have h4 := List.find?_some h1
  have h6 := FAll p h3
  simp only [beq_iff_eq] at h4
  subst h2
  rw [← h4]
  exact h6
end Go.Proofs.YtfgljaglidhjiaaGreatDoor
