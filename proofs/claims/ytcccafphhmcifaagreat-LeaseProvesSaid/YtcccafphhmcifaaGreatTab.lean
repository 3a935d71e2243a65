/- The table of functions: all that it says is the program's. -/
import Derived.Test.YtcccafphhmcifaaGreatF0
import Derived.Test.YtcccafphhmcifaaGreatF1
import Derived.Test.YtcccafphhmcifaaGreatF2
import Derived.Test.YtcccafphhmcifaaGreatF3
import Derived.Test.YtcccafphhmcifaaGreatLays
import Derived.Test.YtcccafphhmcifaaGreatBase2
set_option linter.unusedVariables false
set_option maxRecDepth 100000
namespace Go.Proofs.YtcccafphhmcifaaGreat
open Go Go.Abs
def tbl : List (Nat × Abs.Fn) := [(i_law11_LeaseProves, f_law11_LeaseProves), (i_ref11_RightProgramme, f_ref11_RightProgramme), (i_law11_wakes, f_law11_wakes), (i_lease_Drill, f_lease_Drill), (i_law11_Programme, f_law11_Programme), (i_law11_ints, f_law11_ints), (i_ref11_Shows, f_ref11_Shows), (i_law11_back, f_law11_back), (i_law11_list, f_law11_list), (i_lease_Room, f_lease_Room), (i_lease_Due, f_lease_Due), (i_law11_table, f_law11_table), (i_lease_ProveDrill, f_lease_ProveDrill), (i_ref11_Numbers, f_ref11_Numbers), (i_ref11_Outlook, f_ref11_Outlook), (i_law11_tracts, f_law11_tracts), (i_lease_Split, f_lease_Split), (i_law11_pool, f_law11_pool), (i_law11_drilled, f_law11_drilled), (i_ref11_In, f_ref11_In), (i_lease_Programme_valid, f_lease_Programme_valid), (i_lease_work_table, f_lease_work_table), (i_lease_ladder_at, f_lease_ladder_at), (i_lease_Programme_meets, f_lease_Programme_meets), (i_lease_Year_cost, f_lease_Year_cost), (i_lease_Programme_after, f_lease_Programme_after), (i_ref11_RightTable, f_ref11_RightTable), (i_ref11_Cost, f_ref11_Cost), (i_lease_taking, f_lease_taking), (i_lease_Spring_behind, f_lease_Spring_behind), (i_lease_within, f_lease_within), (i_lease_springs, f_lease_springs), (i_lease_Concession_valid, f_lease_Concession_valid), (i_lease_Concession_masses, f_lease_Concession_masses), (i_lease_Concession_due, f_lease_Concession_due), (i_lease_Programme_planned, f_lease_Programme_planned), (i_lease_all_L_lease_Rung, f_lease_all_L_lease_Rung), (i_lease_ProveDrill_1, f_lease_ProveDrill_1), (i_lease_ladder_right, f_lease_ladder_right), (i_lease_Programme_follow, f_lease_Programme_follow), (i_lease_ProveDrill_2, f_lease_ProveDrill_2), (i_lease_work_least, f_lease_work_least), (i_lease_total, f_lease_total), (i_lease_all_int, f_lease_all_int), (i_lease_sum, f_lease_sum), (i_lease_part, f_lease_part), (i_lease_ranked_lease_portion, f_lease_ranked_lease_portion), (i_lease_Split_1, f_lease_Split_1), (i_lease_all_lease_Year, f_lease_all_lease_Year), (i_lease_Programme_valid_1, f_lease_Programme_valid_1), (i_lease_work_ladders, f_lease_work_ladders), (i_slices_BinarySearchFunc_lease_ladder_lease_Rung_int, f_slices_BinarySearchFunc_lease_ladder_lease_Rung_int), (i_lease_ladder_at_1, f_lease_ladder_at_1), (i_lease_taking_1, f_lease_taking_1), (i_lease_all_lease_Spring, f_lease_all_lease_Spring), (i_lease_springs_1, f_lease_springs_1), (i_lease_all_lease_Range, f_lease_all_lease_Range), (i_lease_springs_1_1, f_lease_springs_1_1), (i_lease_all_L_int, f_lease_all_L_int), (i_lease_Concession_valid_1, f_lease_Concession_valid_1), (i_lease_Concession_valid_1_1, f_lease_Concession_valid_1_1), (i_lease_Programme_planned_1, f_lease_Programme_planned_1), (i_slices_ContainsFunc_L_lease_Rung, f_slices_ContainsFunc_L_lease_Rung), (i_lease_all_L_lease_Rung_1, f_lease_all_L_lease_Rung_1), (i_slices_ContainsFunc_int, f_slices_ContainsFunc_int), (i_lease_all_int_1, f_lease_all_int_1), (i_slices_SortStableFunc_int, f_slices_SortStableFunc_int), (i_lease_ranked_lease_portion_1, f_lease_ranked_lease_portion_1), (i_slices_ContainsFunc_lease_Year, f_slices_ContainsFunc_lease_Year), (i_lease_all_lease_Year_1, f_lease_all_lease_Year_1), (i_lease_work_ladders_1, f_lease_work_ladders_1), (i_lease_work_breaks, f_lease_work_breaks), (i_slices_ContainsFunc_lease_Spring, f_slices_ContainsFunc_lease_Spring), (i_lease_all_lease_Spring_1, f_lease_all_lease_Spring_1), (i_slices_ContainsFunc_lease_Range, f_slices_ContainsFunc_lease_Range), (i_lease_all_lease_Range_1, f_lease_all_lease_Range_1), (i_slices_ContainsFunc_L_int, f_slices_ContainsFunc_L_int), (i_lease_all_L_int_1, f_lease_all_L_int_1), (i_slices_IndexFunc_L_lease_Rung, f_slices_IndexFunc_L_lease_Rung), (i_slices_IndexFunc_int, f_slices_IndexFunc_int), (i_slices_stableCmpFunc_int, f_slices_stableCmpFunc_int), (i_slices_IndexFunc_lease_Year, f_slices_IndexFunc_lease_Year), (i_lease_work_breaks_1, f_lease_work_breaks_1), (i_slices_IndexFunc_lease_Spring, f_slices_IndexFunc_lease_Spring), (i_slices_IndexFunc_lease_Range, f_slices_IndexFunc_lease_Range), (i_slices_IndexFunc_L_int, f_slices_IndexFunc_L_int), (i_slices_insertionSortCmpFunc_int, f_slices_insertionSortCmpFunc_int), (i_slices_symMergeCmpFunc_int, f_slices_symMergeCmpFunc_int), (i_slices_rotateCmpFunc_int, f_slices_rotateCmpFunc_int), (i_slices_swapRangeCmpFunc_int, f_slices_swapRangeCmpFunc_int), (1000000 + i_slices_Sort_int, ⟨1, [], .exit 0⟩), (1000000 + i_slices_Compact_int, ⟨2, [], .exit 0⟩)]
def T : Tbl := fun f => (tbl.find? fun p => p.1 == f).map (·.2)
theorem T_law11_LeaseProves : T i_law11_LeaseProves = some f_law11_LeaseProves := rfl
theorem T_ref11_RightProgramme : T i_ref11_RightProgramme = some f_ref11_RightProgramme := rfl
theorem T_law11_wakes : T i_law11_wakes = some f_law11_wakes := rfl
theorem T_lease_Drill : T i_lease_Drill = some f_lease_Drill := rfl
theorem T_law11_Programme : T i_law11_Programme = some f_law11_Programme := rfl
theorem T_law11_ints : T i_law11_ints = some f_law11_ints := rfl
theorem T_ref11_Shows : T i_ref11_Shows = some f_ref11_Shows := rfl
theorem T_law11_back : T i_law11_back = some f_law11_back := rfl
theorem T_law11_list : T i_law11_list = some f_law11_list := rfl
theorem T_lease_Room : T i_lease_Room = some f_lease_Room := rfl
theorem T_lease_Due : T i_lease_Due = some f_lease_Due := rfl
theorem T_law11_table : T i_law11_table = some f_law11_table := rfl
theorem T_lease_ProveDrill : T i_lease_ProveDrill = some f_lease_ProveDrill := rfl
theorem T_ref11_Numbers : T i_ref11_Numbers = some f_ref11_Numbers := rfl
theorem T_ref11_Outlook : T i_ref11_Outlook = some f_ref11_Outlook := rfl
theorem T_law11_tracts : T i_law11_tracts = some f_law11_tracts := rfl
theorem T_lease_Split : T i_lease_Split = some f_lease_Split := rfl
theorem T_law11_pool : T i_law11_pool = some f_law11_pool := rfl
theorem T_law11_drilled : T i_law11_drilled = some f_law11_drilled := rfl
theorem T_ref11_In : T i_ref11_In = some f_ref11_In := rfl
theorem T_lease_Programme_valid : T i_lease_Programme_valid = some f_lease_Programme_valid := rfl
theorem T_lease_work_table : T i_lease_work_table = some f_lease_work_table := rfl
theorem T_lease_ladder_at : T i_lease_ladder_at = some f_lease_ladder_at := rfl
theorem T_lease_Programme_meets : T i_lease_Programme_meets = some f_lease_Programme_meets := rfl
theorem T_lease_Year_cost : T i_lease_Year_cost = some f_lease_Year_cost := rfl
theorem T_lease_Programme_after : T i_lease_Programme_after = some f_lease_Programme_after := rfl
theorem T_ref11_RightTable : T i_ref11_RightTable = some f_ref11_RightTable := rfl
theorem T_ref11_Cost : T i_ref11_Cost = some f_ref11_Cost := rfl
theorem T_lease_taking : T i_lease_taking = some f_lease_taking := rfl
theorem T_lease_Spring_behind : T i_lease_Spring_behind = some f_lease_Spring_behind := rfl
theorem T_lease_within : T i_lease_within = some f_lease_within := rfl
theorem T_lease_springs : T i_lease_springs = some f_lease_springs := rfl
theorem T_lease_Concession_valid : T i_lease_Concession_valid = some f_lease_Concession_valid := rfl
theorem T_lease_Concession_masses : T i_lease_Concession_masses = some f_lease_Concession_masses := rfl
theorem T_lease_Concession_due : T i_lease_Concession_due = some f_lease_Concession_due := rfl
theorem T_lease_Programme_planned : T i_lease_Programme_planned = some f_lease_Programme_planned := rfl
theorem T_lease_all_L_lease_Rung : T i_lease_all_L_lease_Rung = some f_lease_all_L_lease_Rung := rfl
theorem T_lease_ProveDrill_1 : T i_lease_ProveDrill_1 = some f_lease_ProveDrill_1 := rfl
theorem T_lease_ladder_right : T i_lease_ladder_right = some f_lease_ladder_right := rfl
theorem T_lease_Programme_follow : T i_lease_Programme_follow = some f_lease_Programme_follow := rfl
theorem T_lease_ProveDrill_2 : T i_lease_ProveDrill_2 = some f_lease_ProveDrill_2 := rfl
theorem T_lease_work_least : T i_lease_work_least = some f_lease_work_least := rfl
theorem T_lease_total : T i_lease_total = some f_lease_total := rfl
theorem T_lease_all_int : T i_lease_all_int = some f_lease_all_int := rfl
theorem T_lease_sum : T i_lease_sum = some f_lease_sum := rfl
theorem T_lease_part : T i_lease_part = some f_lease_part := rfl
theorem T_lease_ranked_lease_portion : T i_lease_ranked_lease_portion = some f_lease_ranked_lease_portion := rfl
theorem T_lease_Split_1 : T i_lease_Split_1 = some f_lease_Split_1 := rfl
theorem T_lease_all_lease_Year : T i_lease_all_lease_Year = some f_lease_all_lease_Year := rfl
theorem T_lease_Programme_valid_1 : T i_lease_Programme_valid_1 = some f_lease_Programme_valid_1 := rfl
theorem T_lease_work_ladders : T i_lease_work_ladders = some f_lease_work_ladders := rfl
theorem T_slices_BinarySearchFunc_lease_ladder_lease_Rung_int : T i_slices_BinarySearchFunc_lease_ladder_lease_Rung_int = some f_slices_BinarySearchFunc_lease_ladder_lease_Rung_int := rfl
theorem T_lease_ladder_at_1 : T i_lease_ladder_at_1 = some f_lease_ladder_at_1 := rfl
theorem T_lease_taking_1 : T i_lease_taking_1 = some f_lease_taking_1 := rfl
theorem T_lease_all_lease_Spring : T i_lease_all_lease_Spring = some f_lease_all_lease_Spring := rfl
theorem T_lease_springs_1 : T i_lease_springs_1 = some f_lease_springs_1 := rfl
theorem T_lease_all_lease_Range : T i_lease_all_lease_Range = some f_lease_all_lease_Range := rfl
theorem T_lease_springs_1_1 : T i_lease_springs_1_1 = some f_lease_springs_1_1 := rfl
theorem T_lease_all_L_int : T i_lease_all_L_int = some f_lease_all_L_int := rfl
theorem T_lease_Concession_valid_1 : T i_lease_Concession_valid_1 = some f_lease_Concession_valid_1 := rfl
theorem T_lease_Concession_valid_1_1 : T i_lease_Concession_valid_1_1 = some f_lease_Concession_valid_1_1 := rfl
theorem T_lease_Programme_planned_1 : T i_lease_Programme_planned_1 = some f_lease_Programme_planned_1 := rfl
theorem T_slices_ContainsFunc_L_lease_Rung : T i_slices_ContainsFunc_L_lease_Rung = some f_slices_ContainsFunc_L_lease_Rung := rfl
theorem T_lease_all_L_lease_Rung_1 : T i_lease_all_L_lease_Rung_1 = some f_lease_all_L_lease_Rung_1 := rfl
theorem T_slices_ContainsFunc_int : T i_slices_ContainsFunc_int = some f_slices_ContainsFunc_int := rfl
theorem T_lease_all_int_1 : T i_lease_all_int_1 = some f_lease_all_int_1 := rfl
theorem T_slices_SortStableFunc_int : T i_slices_SortStableFunc_int = some f_slices_SortStableFunc_int := rfl
theorem T_lease_ranked_lease_portion_1 : T i_lease_ranked_lease_portion_1 = some f_lease_ranked_lease_portion_1 := rfl
theorem T_slices_ContainsFunc_lease_Year : T i_slices_ContainsFunc_lease_Year = some f_slices_ContainsFunc_lease_Year := rfl
theorem T_lease_all_lease_Year_1 : T i_lease_all_lease_Year_1 = some f_lease_all_lease_Year_1 := rfl
theorem T_lease_work_ladders_1 : T i_lease_work_ladders_1 = some f_lease_work_ladders_1 := rfl
theorem T_lease_work_breaks : T i_lease_work_breaks = some f_lease_work_breaks := rfl
theorem T_slices_ContainsFunc_lease_Spring : T i_slices_ContainsFunc_lease_Spring = some f_slices_ContainsFunc_lease_Spring := rfl
theorem T_lease_all_lease_Spring_1 : T i_lease_all_lease_Spring_1 = some f_lease_all_lease_Spring_1 := rfl
theorem T_slices_ContainsFunc_lease_Range : T i_slices_ContainsFunc_lease_Range = some f_slices_ContainsFunc_lease_Range := rfl
theorem T_lease_all_lease_Range_1 : T i_lease_all_lease_Range_1 = some f_lease_all_lease_Range_1 := rfl
theorem T_slices_ContainsFunc_L_int : T i_slices_ContainsFunc_L_int = some f_slices_ContainsFunc_L_int := rfl
theorem T_lease_all_L_int_1 : T i_lease_all_L_int_1 = some f_lease_all_L_int_1 := rfl
theorem T_slices_IndexFunc_L_lease_Rung : T i_slices_IndexFunc_L_lease_Rung = some f_slices_IndexFunc_L_lease_Rung := rfl
theorem T_slices_IndexFunc_int : T i_slices_IndexFunc_int = some f_slices_IndexFunc_int := rfl
theorem T_slices_stableCmpFunc_int : T i_slices_stableCmpFunc_int = some f_slices_stableCmpFunc_int := rfl
theorem T_slices_IndexFunc_lease_Year : T i_slices_IndexFunc_lease_Year = some f_slices_IndexFunc_lease_Year := rfl
theorem T_lease_work_breaks_1 : T i_lease_work_breaks_1 = some f_lease_work_breaks_1 := rfl
theorem T_slices_IndexFunc_lease_Spring : T i_slices_IndexFunc_lease_Spring = some f_slices_IndexFunc_lease_Spring := rfl
theorem T_slices_IndexFunc_lease_Range : T i_slices_IndexFunc_lease_Range = some f_slices_IndexFunc_lease_Range := rfl
theorem T_slices_IndexFunc_L_int : T i_slices_IndexFunc_L_int = some f_slices_IndexFunc_L_int := rfl
theorem T_slices_insertionSortCmpFunc_int : T i_slices_insertionSortCmpFunc_int = some f_slices_insertionSortCmpFunc_int := rfl
theorem T_slices_symMergeCmpFunc_int : T i_slices_symMergeCmpFunc_int = some f_slices_symMergeCmpFunc_int := rfl
theorem T_slices_rotateCmpFunc_int : T i_slices_rotateCmpFunc_int = some f_slices_rotateCmpFunc_int := rfl
theorem T_slices_swapRangeCmpFunc_int : T i_slices_swapRangeCmpFunc_int = some f_slices_swapRangeCmpFunc_int := rfl
theorem mixed : Tryz.prog.follows .mixedOrders = true := by kernel_rfl
theorem T_slices_Sort_int : T i_slices_Sort_int = none := rfl
theorem N_slices_Sort_int : T (1000000 + i_slices_Sort_int) = some ⟨1, [], .exit 0⟩ := rfl
theorem T_slices_Compact_int : T i_slices_Compact_int = none := rfl
theorem N_slices_Compact_int : T (1000000 + i_slices_Compact_int) = some ⟨2, [], .exit 0⟩ := rfl
def FOk (f : Nat) (fn : Abs.Fn) : Prop := if f < 1000000 then FnOk Tryz.prog f fn else fn.body = .exit 0 ∧ NatOk Tryz.prog fn.npar (f - 1000000)
theorem fok {f : Nat} {fn : Abs.Fn} (h : f < 1000000) (h' : FnOk Tryz.prog f fn) : FOk f fn := by unfold FOk; rw [if_pos h]; exact h'
theorem nok {k f : Nat} (h' : NatOk Tryz.prog k f) : FOk (1000000 + f) ⟨k, [], .exit 0⟩ := by unfold FOk; rw [if_neg (by omega), show 1000000 + f - 1000000 = f from by omega]; exact ⟨rfl, h'⟩
theorem F_law11_LeaseProves : FOk i_law11_LeaseProves f_law11_LeaseProves := fok (by decide) ⟨Tryz.f6, _, a_law11_LeaseProves, Tryz.func6, by decide, rfl, ok_law11_LeaseProves⟩
theorem F_ref11_RightProgramme : FOk i_ref11_RightProgramme f_ref11_RightProgramme := fok (by decide) ⟨Tryz.f10, _, a_ref11_RightProgramme, Tryz.func10, by decide, rfl, ok_ref11_RightProgramme⟩
theorem F_law11_wakes : FOk i_law11_wakes f_law11_wakes := fok (by decide) ⟨Tryz.f11, _, a_law11_wakes, Tryz.func11, by decide, rfl, ok_law11_wakes⟩
theorem F_lease_Drill : FOk i_lease_Drill f_lease_Drill := fok (by decide) ⟨Tryz.f12, _, a_lease_Drill, Tryz.func12, by decide, rfl, ok_lease_Drill⟩
theorem F_law11_Programme : FOk i_law11_Programme f_law11_Programme := fok (by decide) ⟨Tryz.f13, _, a_law11_Programme, Tryz.func13, by decide, rfl, ok_law11_Programme⟩
theorem F_law11_ints : FOk i_law11_ints f_law11_ints := fok (by decide) ⟨Tryz.f15, _, a_law11_ints, Tryz.func15, by decide, rfl, ok_law11_ints⟩
theorem F_ref11_Shows : FOk i_ref11_Shows f_ref11_Shows := fok (by decide) ⟨Tryz.f17, _, a_ref11_Shows, Tryz.func17, by decide, rfl, ok_ref11_Shows⟩
theorem F_law11_back : FOk i_law11_back f_law11_back := fok (by decide) ⟨Tryz.f18, _, a_law11_back, Tryz.func18, by decide, rfl, ok_law11_back⟩
theorem F_law11_list : FOk i_law11_list f_law11_list := fok (by decide) ⟨Tryz.f22, _, a_law11_list, Tryz.func22, by decide, rfl, ok_law11_list⟩
theorem F_lease_Room : FOk i_lease_Room f_lease_Room := fok (by decide) ⟨Tryz.f24, _, a_lease_Room, Tryz.func24, by decide, rfl, ok_lease_Room⟩
theorem F_lease_Due : FOk i_lease_Due f_lease_Due := fok (by decide) ⟨Tryz.f30, _, a_lease_Due, Tryz.func30, by decide, rfl, ok_lease_Due⟩
theorem F_law11_table : FOk i_law11_table f_law11_table := fok (by decide) ⟨Tryz.f38, _, a_law11_table, Tryz.func38, by decide, rfl, ok_law11_table⟩
theorem F_lease_ProveDrill : FOk i_lease_ProveDrill f_lease_ProveDrill := fok (by decide) ⟨Tryz.f39, _, a_lease_ProveDrill, Tryz.func39, by decide, rfl, ok_lease_ProveDrill⟩
theorem F_ref11_Numbers : FOk i_ref11_Numbers f_ref11_Numbers := fok (by decide) ⟨Tryz.f44, _, a_ref11_Numbers, Tryz.func44, by decide, rfl, ok_ref11_Numbers⟩
theorem F_ref11_Outlook : FOk i_ref11_Outlook f_ref11_Outlook := fok (by decide) ⟨Tryz.f45, _, a_ref11_Outlook, Tryz.func45, by decide, rfl, ok_ref11_Outlook⟩
theorem F_law11_tracts : FOk i_law11_tracts f_law11_tracts := fok (by decide) ⟨Tryz.f46, _, a_law11_tracts, Tryz.func46, by decide, rfl, ok_law11_tracts⟩
theorem F_lease_Split : FOk i_lease_Split f_lease_Split := fok (by decide) ⟨Tryz.f47, _, a_lease_Split, Tryz.func47, by decide, rfl, ok_lease_Split⟩
theorem F_law11_pool : FOk i_law11_pool f_law11_pool := fok (by decide) ⟨Tryz.f49, _, a_law11_pool, Tryz.func49, by decide, rfl, ok_law11_pool⟩
theorem F_law11_drilled : FOk i_law11_drilled f_law11_drilled := fok (by decide) ⟨Tryz.f50, _, a_law11_drilled, Tryz.func50, by decide, rfl, ok_law11_drilled⟩
theorem F_ref11_In : FOk i_ref11_In f_ref11_In := fok (by decide) ⟨Tryz.f52, _, a_ref11_In, Tryz.func52, by decide, rfl, ok_ref11_In⟩
theorem F_lease_Programme_valid : FOk i_lease_Programme_valid f_lease_Programme_valid := fok (by decide) ⟨Tryz.f53, _, a_lease_Programme_valid, Tryz.func53, by decide, rfl, ok_lease_Programme_valid⟩
theorem F_lease_work_table : FOk i_lease_work_table f_lease_work_table := fok (by decide) ⟨Tryz.f54, _, a_lease_work_table, Tryz.func54, by decide, rfl, ok_lease_work_table⟩
theorem F_lease_ladder_at : FOk i_lease_ladder_at f_lease_ladder_at := fok (by decide) ⟨Tryz.f55, _, a_lease_ladder_at, Tryz.func55, by decide, rfl, ok_lease_ladder_at⟩
theorem F_lease_Programme_meets : FOk i_lease_Programme_meets f_lease_Programme_meets := fok (by decide) ⟨Tryz.f56, _, a_lease_Programme_meets, Tryz.func56, by decide, rfl, ok_lease_Programme_meets⟩
theorem F_lease_Year_cost : FOk i_lease_Year_cost f_lease_Year_cost := fok (by decide) ⟨Tryz.f57, _, a_lease_Year_cost, Tryz.func57, by decide, rfl, ok_lease_Year_cost⟩
theorem F_lease_Programme_after : FOk i_lease_Programme_after f_lease_Programme_after := fok (by decide) ⟨Tryz.f58, _, a_lease_Programme_after, Tryz.func58, by decide, rfl, ok_lease_Programme_after⟩
theorem F_ref11_RightTable : FOk i_ref11_RightTable f_ref11_RightTable := fok (by decide) ⟨Tryz.f59, _, a_ref11_RightTable, Tryz.func59, by decide, rfl, ok_ref11_RightTable⟩
theorem F_ref11_Cost : FOk i_ref11_Cost f_ref11_Cost := fok (by decide) ⟨Tryz.f60, _, a_ref11_Cost, Tryz.func60, by decide, rfl, ok_ref11_Cost⟩
theorem F_lease_taking : FOk i_lease_taking f_lease_taking := fok (by decide) ⟨Tryz.f61, _, a_lease_taking, Tryz.func61, by decide, rfl, ok_lease_taking⟩
theorem F_lease_Spring_behind : FOk i_lease_Spring_behind f_lease_Spring_behind := fok (by decide) ⟨Tryz.f62, _, a_lease_Spring_behind, Tryz.func62, by decide, rfl, ok_lease_Spring_behind⟩
theorem F_lease_within : FOk i_lease_within f_lease_within := fok (by decide) ⟨Tryz.f63, _, a_lease_within, Tryz.func63, by decide, rfl, ok_lease_within⟩
theorem F_lease_springs : FOk i_lease_springs f_lease_springs := fok (by decide) ⟨Tryz.f64, _, a_lease_springs, Tryz.func64, by decide, rfl, ok_lease_springs⟩
theorem F_lease_Concession_valid : FOk i_lease_Concession_valid f_lease_Concession_valid := fok (by decide) ⟨Tryz.f65, _, a_lease_Concession_valid, Tryz.func65, by decide, rfl, ok_lease_Concession_valid⟩
theorem F_lease_Concession_masses : FOk i_lease_Concession_masses f_lease_Concession_masses := fok (by decide) ⟨Tryz.f66, _, a_lease_Concession_masses, Tryz.func66, by decide, rfl, ok_lease_Concession_masses⟩
theorem F_lease_Concession_due : FOk i_lease_Concession_due f_lease_Concession_due := fok (by decide) ⟨Tryz.f67, _, a_lease_Concession_due, Tryz.func67, by decide, rfl, ok_lease_Concession_due⟩
theorem F_lease_Programme_planned : FOk i_lease_Programme_planned f_lease_Programme_planned := fok (by decide) ⟨Tryz.f69, _, a_lease_Programme_planned, Tryz.func69, by decide, rfl, ok_lease_Programme_planned⟩
theorem F_lease_all_L_lease_Rung : FOk i_lease_all_L_lease_Rung f_lease_all_L_lease_Rung := fok (by decide) ⟨Tryz.f70, _, a_lease_all_L_lease_Rung, Tryz.func70, by decide, rfl, ok_lease_all_L_lease_Rung⟩
theorem F_lease_ProveDrill_1 : FOk i_lease_ProveDrill_1 f_lease_ProveDrill_1 := fok (by decide) ⟨Tryz.f71, _, a_lease_ProveDrill_1, Tryz.func71, by decide, rfl, ok_lease_ProveDrill_1⟩
theorem F_lease_ladder_right : FOk i_lease_ladder_right f_lease_ladder_right := fok (by decide) ⟨Tryz.f72, _, a_lease_ladder_right, Tryz.func72, by decide, rfl, ok_lease_ladder_right⟩
theorem F_lease_Programme_follow : FOk i_lease_Programme_follow f_lease_Programme_follow := fok (by decide) ⟨Tryz.f73, _, a_lease_Programme_follow, Tryz.func73, by decide, rfl, ok_lease_Programme_follow⟩
theorem F_lease_ProveDrill_2 : FOk i_lease_ProveDrill_2 f_lease_ProveDrill_2 := fok (by decide) ⟨Tryz.f74, _, a_lease_ProveDrill_2, Tryz.func74, by decide, rfl, ok_lease_ProveDrill_2⟩
theorem F_lease_work_least : FOk i_lease_work_least f_lease_work_least := fok (by decide) ⟨Tryz.f75, _, a_lease_work_least, Tryz.func75, by decide, rfl, ok_lease_work_least⟩
theorem F_lease_total : FOk i_lease_total f_lease_total := fok (by decide) ⟨Tryz.f77, _, a_lease_total, Tryz.func77, by decide, rfl, ok_lease_total⟩
theorem F_lease_all_int : FOk i_lease_all_int f_lease_all_int := fok (by decide) ⟨Tryz.f78, _, a_lease_all_int, Tryz.func78, by decide, rfl, ok_lease_all_int⟩
theorem F_lease_sum : FOk i_lease_sum f_lease_sum := fok (by decide) ⟨Tryz.f79, _, a_lease_sum, Tryz.func79, by decide, rfl, ok_lease_sum⟩
theorem F_lease_part : FOk i_lease_part f_lease_part := fok (by decide) ⟨Tryz.f80, _, a_lease_part, Tryz.func80, by decide, rfl, ok_lease_part⟩
theorem F_lease_ranked_lease_portion : FOk i_lease_ranked_lease_portion f_lease_ranked_lease_portion := fok (by decide) ⟨Tryz.f81, _, a_lease_ranked_lease_portion, Tryz.func81, by decide, rfl, ok_lease_ranked_lease_portion⟩
theorem F_lease_Split_1 : FOk i_lease_Split_1 f_lease_Split_1 := fok (by decide) ⟨Tryz.f82, _, a_lease_Split_1, Tryz.func82, by decide, rfl, ok_lease_Split_1⟩
theorem F_lease_all_lease_Year : FOk i_lease_all_lease_Year f_lease_all_lease_Year := fok (by decide) ⟨Tryz.f84, _, a_lease_all_lease_Year, Tryz.func84, by decide, rfl, ok_lease_all_lease_Year⟩
theorem F_lease_Programme_valid_1 : FOk i_lease_Programme_valid_1 f_lease_Programme_valid_1 := fok (by decide) ⟨Tryz.f85, _, a_lease_Programme_valid_1, Tryz.func85, by decide, rfl, ok_lease_Programme_valid_1⟩
theorem F_lease_work_ladders : FOk i_lease_work_ladders f_lease_work_ladders := fok (by decide) ⟨Tryz.f86, _, a_lease_work_ladders, Tryz.func86, by decide, rfl, ok_lease_work_ladders⟩
theorem F_slices_BinarySearchFunc_lease_ladder_lease_Rung_int : FOk i_slices_BinarySearchFunc_lease_ladder_lease_Rung_int f_slices_BinarySearchFunc_lease_ladder_lease_Rung_int := fok (by decide) ⟨Tryz.f87, _, a_slices_BinarySearchFunc_lease_ladder_lease_Rung_int, Tryz.func87, by decide, rfl, ok_slices_BinarySearchFunc_lease_ladder_lease_Rung_int⟩
theorem F_lease_ladder_at_1 : FOk i_lease_ladder_at_1 f_lease_ladder_at_1 := fok (by decide) ⟨Tryz.f88, _, a_lease_ladder_at_1, Tryz.func88, by decide, rfl, ok_lease_ladder_at_1⟩
theorem F_lease_taking_1 : FOk i_lease_taking_1 f_lease_taking_1 := fok (by decide) ⟨Tryz.f89, _, a_lease_taking_1, Tryz.func89, by decide, rfl, ok_lease_taking_1⟩
theorem F_lease_all_lease_Spring : FOk i_lease_all_lease_Spring f_lease_all_lease_Spring := fok (by decide) ⟨Tryz.f90, _, a_lease_all_lease_Spring, Tryz.func90, by decide, rfl, ok_lease_all_lease_Spring⟩
theorem F_lease_springs_1 : FOk i_lease_springs_1 f_lease_springs_1 := fok (by decide) ⟨Tryz.f91, _, a_lease_springs_1, Tryz.func91, by decide, rfl, ok_lease_springs_1⟩
theorem F_lease_all_lease_Range : FOk i_lease_all_lease_Range f_lease_all_lease_Range := fok (by decide) ⟨Tryz.f92, _, a_lease_all_lease_Range, Tryz.func92, by decide, rfl, ok_lease_all_lease_Range⟩
theorem F_lease_springs_1_1 : FOk i_lease_springs_1_1 f_lease_springs_1_1 := fok (by decide) ⟨Tryz.f93, _, a_lease_springs_1_1, Tryz.func93, by decide, rfl, ok_lease_springs_1_1⟩
theorem F_lease_all_L_int : FOk i_lease_all_L_int f_lease_all_L_int := fok (by decide) ⟨Tryz.f94, _, a_lease_all_L_int, Tryz.func94, by decide, rfl, ok_lease_all_L_int⟩
theorem F_lease_Concession_valid_1 : FOk i_lease_Concession_valid_1 f_lease_Concession_valid_1 := fok (by decide) ⟨Tryz.f95, _, a_lease_Concession_valid_1, Tryz.func95, by decide, rfl, ok_lease_Concession_valid_1⟩
theorem F_lease_Concession_valid_1_1 : FOk i_lease_Concession_valid_1_1 f_lease_Concession_valid_1_1 := fok (by decide) ⟨Tryz.f96, _, a_lease_Concession_valid_1_1, Tryz.func96, by decide, rfl, ok_lease_Concession_valid_1_1⟩
theorem F_lease_Programme_planned_1 : FOk i_lease_Programme_planned_1 f_lease_Programme_planned_1 := fok (by decide) ⟨Tryz.f97, _, a_lease_Programme_planned_1, Tryz.func97, by decide, rfl, ok_lease_Programme_planned_1⟩
theorem F_slices_ContainsFunc_L_lease_Rung : FOk i_slices_ContainsFunc_L_lease_Rung f_slices_ContainsFunc_L_lease_Rung := fok (by decide) ⟨Tryz.f98, _, a_slices_ContainsFunc_L_lease_Rung, Tryz.func98, by decide, rfl, ok_slices_ContainsFunc_L_lease_Rung⟩
theorem F_lease_all_L_lease_Rung_1 : FOk i_lease_all_L_lease_Rung_1 f_lease_all_L_lease_Rung_1 := fok (by decide) ⟨Tryz.f99, _, a_lease_all_L_lease_Rung_1, Tryz.func99, by decide, rfl, ok_lease_all_L_lease_Rung_1⟩
theorem F_slices_ContainsFunc_int : FOk i_slices_ContainsFunc_int f_slices_ContainsFunc_int := fok (by decide) ⟨Tryz.f100, _, a_slices_ContainsFunc_int, Tryz.func100, by decide, rfl, ok_slices_ContainsFunc_int⟩
theorem F_lease_all_int_1 : FOk i_lease_all_int_1 f_lease_all_int_1 := fok (by decide) ⟨Tryz.f101, _, a_lease_all_int_1, Tryz.func101, by decide, rfl, ok_lease_all_int_1⟩
theorem F_slices_SortStableFunc_int : FOk i_slices_SortStableFunc_int f_slices_SortStableFunc_int := fok (by decide) ⟨Tryz.f102, _, a_slices_SortStableFunc_int, Tryz.func102, by decide, rfl, ok_slices_SortStableFunc_int⟩
theorem F_lease_ranked_lease_portion_1 : FOk i_lease_ranked_lease_portion_1 f_lease_ranked_lease_portion_1 := fok (by decide) ⟨Tryz.f103, _, a_lease_ranked_lease_portion_1, Tryz.func103, by decide, rfl, ok_lease_ranked_lease_portion_1⟩
theorem F_slices_ContainsFunc_lease_Year : FOk i_slices_ContainsFunc_lease_Year f_slices_ContainsFunc_lease_Year := fok (by decide) ⟨Tryz.f104, _, a_slices_ContainsFunc_lease_Year, Tryz.func104, by decide, rfl, ok_slices_ContainsFunc_lease_Year⟩
theorem F_lease_all_lease_Year_1 : FOk i_lease_all_lease_Year_1 f_lease_all_lease_Year_1 := fok (by decide) ⟨Tryz.f105, _, a_lease_all_lease_Year_1, Tryz.func105, by decide, rfl, ok_lease_all_lease_Year_1⟩
theorem F_lease_work_ladders_1 : FOk i_lease_work_ladders_1 f_lease_work_ladders_1 := fok (by decide) ⟨Tryz.f106, _, a_lease_work_ladders_1, Tryz.func106, by decide, rfl, ok_lease_work_ladders_1⟩
theorem F_lease_work_breaks : FOk i_lease_work_breaks f_lease_work_breaks := fok (by decide) ⟨Tryz.f107, _, a_lease_work_breaks, Tryz.func107, by decide, rfl, ok_lease_work_breaks⟩
theorem F_slices_ContainsFunc_lease_Spring : FOk i_slices_ContainsFunc_lease_Spring f_slices_ContainsFunc_lease_Spring := fok (by decide) ⟨Tryz.f108, _, a_slices_ContainsFunc_lease_Spring, Tryz.func108, by decide, rfl, ok_slices_ContainsFunc_lease_Spring⟩
theorem F_lease_all_lease_Spring_1 : FOk i_lease_all_lease_Spring_1 f_lease_all_lease_Spring_1 := fok (by decide) ⟨Tryz.f109, _, a_lease_all_lease_Spring_1, Tryz.func109, by decide, rfl, ok_lease_all_lease_Spring_1⟩
theorem F_slices_ContainsFunc_lease_Range : FOk i_slices_ContainsFunc_lease_Range f_slices_ContainsFunc_lease_Range := fok (by decide) ⟨Tryz.f110, _, a_slices_ContainsFunc_lease_Range, Tryz.func110, by decide, rfl, ok_slices_ContainsFunc_lease_Range⟩
theorem F_lease_all_lease_Range_1 : FOk i_lease_all_lease_Range_1 f_lease_all_lease_Range_1 := fok (by decide) ⟨Tryz.f111, _, a_lease_all_lease_Range_1, Tryz.func111, by decide, rfl, ok_lease_all_lease_Range_1⟩
theorem F_slices_ContainsFunc_L_int : FOk i_slices_ContainsFunc_L_int f_slices_ContainsFunc_L_int := fok (by decide) ⟨Tryz.f112, _, a_slices_ContainsFunc_L_int, Tryz.func112, by decide, rfl, ok_slices_ContainsFunc_L_int⟩
theorem F_lease_all_L_int_1 : FOk i_lease_all_L_int_1 f_lease_all_L_int_1 := fok (by decide) ⟨Tryz.f113, _, a_lease_all_L_int_1, Tryz.func113, by decide, rfl, ok_lease_all_L_int_1⟩
theorem F_slices_IndexFunc_L_lease_Rung : FOk i_slices_IndexFunc_L_lease_Rung f_slices_IndexFunc_L_lease_Rung := fok (by decide) ⟨Tryz.f114, _, a_slices_IndexFunc_L_lease_Rung, Tryz.func114, by decide, rfl, ok_slices_IndexFunc_L_lease_Rung⟩
theorem F_slices_IndexFunc_int : FOk i_slices_IndexFunc_int f_slices_IndexFunc_int := fok (by decide) ⟨Tryz.f115, _, a_slices_IndexFunc_int, Tryz.func115, by decide, rfl, ok_slices_IndexFunc_int⟩
theorem F_slices_stableCmpFunc_int : FOk i_slices_stableCmpFunc_int f_slices_stableCmpFunc_int := fok (by decide) ⟨Tryz.f116, _, a_slices_stableCmpFunc_int, Tryz.func116, by decide, rfl, ok_slices_stableCmpFunc_int⟩
theorem F_slices_IndexFunc_lease_Year : FOk i_slices_IndexFunc_lease_Year f_slices_IndexFunc_lease_Year := fok (by decide) ⟨Tryz.f117, _, a_slices_IndexFunc_lease_Year, Tryz.func117, by decide, rfl, ok_slices_IndexFunc_lease_Year⟩
theorem F_lease_work_breaks_1 : FOk i_lease_work_breaks_1 f_lease_work_breaks_1 := fok (by decide) ⟨Tryz.f118, _, a_lease_work_breaks_1, Tryz.func118, by decide, rfl, ok_lease_work_breaks_1⟩
theorem F_slices_IndexFunc_lease_Spring : FOk i_slices_IndexFunc_lease_Spring f_slices_IndexFunc_lease_Spring := fok (by decide) ⟨Tryz.f121, _, a_slices_IndexFunc_lease_Spring, Tryz.func121, by decide, rfl, ok_slices_IndexFunc_lease_Spring⟩
theorem F_slices_IndexFunc_lease_Range : FOk i_slices_IndexFunc_lease_Range f_slices_IndexFunc_lease_Range := fok (by decide) ⟨Tryz.f122, _, a_slices_IndexFunc_lease_Range, Tryz.func122, by decide, rfl, ok_slices_IndexFunc_lease_Range⟩
theorem F_slices_IndexFunc_L_int : FOk i_slices_IndexFunc_L_int f_slices_IndexFunc_L_int := fok (by decide) ⟨Tryz.f123, _, a_slices_IndexFunc_L_int, Tryz.func123, by decide, rfl, ok_slices_IndexFunc_L_int⟩
theorem F_slices_insertionSortCmpFunc_int : FOk i_slices_insertionSortCmpFunc_int f_slices_insertionSortCmpFunc_int := fok (by decide) ⟨Tryz.f124, _, a_slices_insertionSortCmpFunc_int, Tryz.func124, by decide, rfl, ok_slices_insertionSortCmpFunc_int⟩
theorem F_slices_symMergeCmpFunc_int : FOk i_slices_symMergeCmpFunc_int f_slices_symMergeCmpFunc_int := fok (by decide) ⟨Tryz.f125, _, a_slices_symMergeCmpFunc_int, Tryz.func125, by decide, rfl, ok_slices_symMergeCmpFunc_int⟩
theorem F_slices_rotateCmpFunc_int : FOk i_slices_rotateCmpFunc_int f_slices_rotateCmpFunc_int := fok (by decide) ⟨Tryz.f128, _, a_slices_rotateCmpFunc_int, Tryz.func128, by decide, rfl, ok_slices_rotateCmpFunc_int⟩
theorem F_slices_swapRangeCmpFunc_int : FOk i_slices_swapRangeCmpFunc_int f_slices_swapRangeCmpFunc_int := fok (by decide) ⟨Tryz.f140, _, a_slices_swapRangeCmpFunc_int, Tryz.func140, by decide, rfl, ok_slices_swapRangeCmpFunc_int⟩
theorem F_slices_Sort_int : FOk (1000000 + i_slices_Sort_int) ⟨1, [], .exit 0⟩ := nok nat_slices_Sort_int
theorem F_slices_Compact_int : FOk (1000000 + i_slices_Compact_int) ⟨2, [], .exit 0⟩ := nok nat_slices_Compact_int
theorem FAll : ∀ p ∈ tbl, FOk p.1 p.2 := by
  simp only [tbl, List.forall_mem_cons]
  exact ⟨F_law11_LeaseProves, F_ref11_RightProgramme, F_law11_wakes, F_lease_Drill, F_law11_Programme, F_law11_ints, F_ref11_Shows, F_law11_back, F_law11_list, F_lease_Room, F_lease_Due, F_law11_table, F_lease_ProveDrill, F_ref11_Numbers, F_ref11_Outlook, F_law11_tracts, F_lease_Split, F_law11_pool, F_law11_drilled, F_ref11_In, F_lease_Programme_valid, F_lease_work_table, F_lease_ladder_at, F_lease_Programme_meets, F_lease_Year_cost, F_lease_Programme_after, F_ref11_RightTable, F_ref11_Cost, F_lease_taking, F_lease_Spring_behind, F_lease_within, F_lease_springs, F_lease_Concession_valid, F_lease_Concession_masses, F_lease_Concession_due, F_lease_Programme_planned, F_lease_all_L_lease_Rung, F_lease_ProveDrill_1, F_lease_ladder_right, F_lease_Programme_follow, F_lease_ProveDrill_2, F_lease_work_least, F_lease_total, F_lease_all_int, F_lease_sum, F_lease_part, F_lease_ranked_lease_portion, F_lease_Split_1, F_lease_all_lease_Year, F_lease_Programme_valid_1, F_lease_work_ladders, F_slices_BinarySearchFunc_lease_ladder_lease_Rung_int, F_lease_ladder_at_1, F_lease_taking_1, F_lease_all_lease_Spring, F_lease_springs_1, F_lease_all_lease_Range, F_lease_springs_1_1, F_lease_all_L_int, F_lease_Concession_valid_1, F_lease_Concession_valid_1_1, F_lease_Programme_planned_1, F_slices_ContainsFunc_L_lease_Rung, F_lease_all_L_lease_Rung_1, F_slices_ContainsFunc_int, F_lease_all_int_1, F_slices_SortStableFunc_int, F_lease_ranked_lease_portion_1, F_slices_ContainsFunc_lease_Year, F_lease_all_lease_Year_1, F_lease_work_ladders_1, F_lease_work_breaks, F_slices_ContainsFunc_lease_Spring, F_lease_all_lease_Spring_1, F_slices_ContainsFunc_lease_Range, F_lease_all_lease_Range_1, F_slices_ContainsFunc_L_int, F_lease_all_L_int_1, F_slices_IndexFunc_L_lease_Rung, F_slices_IndexFunc_int, F_slices_stableCmpFunc_int, F_slices_IndexFunc_lease_Year, F_lease_work_breaks_1, F_slices_IndexFunc_lease_Spring, F_slices_IndexFunc_lease_Range, F_slices_IndexFunc_L_int, F_slices_insertionSortCmpFunc_int, F_slices_symMergeCmpFunc_int, F_slices_rotateCmpFunc_int, F_slices_swapRangeCmpFunc_int, F_slices_Sort_int, F_slices_Compact_int, by simp⟩
theorem TT : TOk Tryz.prog T := by
  intro f fn h
  have h' : ∃ p, tbl.find? (fun p => p.1 == f) = some p ∧ p.2 = fn := by simpa [T] using h
  obtain ⟨p, h1, h2⟩ := h'
  have h3 := List.mem_of_find?_eq_some h1
  have h4 := List.find?_some h1
  have h6 := FAll p h3
  simp only [beq_iff_eq] at h4
  subst h2
  rw [← h4]
  exact h6
end Go.Proofs.YtcccafphhmcifaaGreat
